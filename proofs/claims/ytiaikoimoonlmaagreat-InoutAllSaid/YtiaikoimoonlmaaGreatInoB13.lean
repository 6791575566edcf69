/- The library's contracts at this seat's program, in plain words (printed by the kit's lay-plain.mjs). Conditions: none. -/
import Derived.Shelf.Sort.Plain
import Derived.Shelf.Slices.In.SortNone
import Derived.Shelf.Slices.CompactS
import Derived.Ground.Names2Prog
import Derived.Shelf.Slices.SearchI
import Derived.Shelf.Slices.Empties
import Derived.Shelf.Spec.SlicesInsert
import Derived.Shelf.Spec.SlicesInsertGrow
import Derived.Shelf.SlSortCmp.NoneTotal
import Derived.Ground.SlsfProg
import Derived.Test.YtiaikoimoonlmaaGreatProg
import Derived.Test.YtiaikoimoonlmaaGreatInoB11
import Derived.Test.YtiaikoimoonlmaaGreatInoB12
set_option linter.unusedSimpArgs false
set_option linter.unusedVariables false
set_option maxRecDepth 100000
set_option maxHeartbeats 16000000
namespace Go.Proofs
open Go.Shelf
def Tryz.laysF_ren:Go.Shelf.Ren:=⟨fun|6=>291|15=>228|14=>329|28=>289|29=>290|20=>351|21=>352|22=>353|23=>354|24=>355|25=>356|26=>357|27=>358|46=>372|47=>325|48=>326|49=>373|50=>374|57=>376|n=>n,fun|22=>56|24=>139|25=>297|3=>3|39=>254|0=>0|53=>293|55=>295|4=>4|46=>286|45=>285|50=>128|5=>5|9=>9|66=>318|70=>322|76=>340|77=>74|n=>n,fun|n=>n⟩
theorem x4f:Go.Proofs.SlLaysF0.n6 Tryz.prog Tryz.laysF_ren:={
 mixed:=by kernel_rfl
 f6:=⟨Tryz.f291.name,by decide,Tryz.func291.trans (congrArg some (by kernel_rfl))⟩
 f14:=⟨Tryz.f329.name,by decide,Tryz.func329.trans (congrArg some (by kernel_rfl))⟩
 f15:=Tryz.func228.trans (congrArg some (by kernel_rfl))
 f20:=⟨Tryz.f351.name,by decide,Tryz.func351.trans (congrArg some (by kernel_rfl))⟩
 f21:=⟨Tryz.f352.name,by decide,Tryz.func352.trans (congrArg some (by kernel_rfl))⟩
 f22:=⟨Tryz.f353.name,by decide,Tryz.func353.trans (congrArg some (by kernel_rfl))⟩
 f23:=⟨Tryz.f354.name,by decide,Tryz.func354.trans (congrArg some (by kernel_rfl))⟩
 f24:=⟨Tryz.f355.name,by decide,Tryz.func355.trans (congrArg some (by kernel_rfl))⟩
 f25:=⟨Tryz.f356.name,by decide,Tryz.func356.trans (congrArg some (by kernel_rfl))⟩
 f26:=⟨Tryz.f357.name,by decide,Tryz.func357.trans (congrArg some (by kernel_rfl))⟩
 f27:=⟨Tryz.f358.name,by decide,Tryz.func358.trans (congrArg some (by kernel_rfl))⟩
 f28:=Tryz.func289.trans (congrArg some (by kernel_rfl))
 f29:=Tryz.func290.trans (congrArg some (by kernel_rfl))
 f46:=⟨Tryz.f372.name,by decide,Tryz.func372.trans (congrArg some (by kernel_rfl))⟩
 f47:=Tryz.func325.trans (congrArg some (by kernel_rfl))
 f48:=Tryz.func326.trans (congrArg some (by kernel_rfl))
 f49:=⟨Tryz.f373.name,by decide,Tryz.func373.trans (congrArg some (by kernel_rfl))⟩
 f50:=⟨Tryz.f374.name,by decide,Tryz.func374.trans (congrArg some (by kernel_rfl))⟩
 f57:=⟨Tryz.f376.name,by decide,Tryz.func376.trans (congrArg some (by kernel_rfl))⟩
 t0:=Tryz.underlying0
 a0:=Tryz.isAgg0
 z0:=Tryz.sizeOf0
 v0:=Tryz.zeroValue0
 t3:=Tryz.underlying3
 a3:=Tryz.isAgg3
 z3:=Tryz.sizeOf3
 v3:=Tryz.zeroValue3
 t4:=Tryz.underlying4
 a4:=Tryz.isAgg4
 z4:=Tryz.sizeOf4
 v4:=Tryz.zeroValue4
 t5:=Tryz.underlying5
 a5:=Tryz.isAgg5
 z5:=Tryz.sizeOf5
 v5:=Tryz.zeroValue5
 t9:=Tryz.underlying9
 a9:=Tryz.isAgg9
 z9:=Tryz.sizeOf9
 v9:=Tryz.zeroValue9
 t22:=Tryz.underlying56
 a22:=Tryz.isAgg56
 z22:=Tryz.sizeOf56
 v22:=Tryz.zeroValue56
 t25:=Tryz.underlying297
 a25:=Tryz.isAgg297
 z25:=Tryz.sizeOf297
 v25:=Tryz.zeroValue297
 t39:=Tryz.underlying254
 a39:=Tryz.isAgg254
 z39:=Tryz.sizeOf254
 v39:=Tryz.zeroValue254
 t45:=Tryz.underlying285
 a45:=Tryz.isAgg285
 z45:=Tryz.sizeOf285
 v45:=Tryz.zeroValue285
 t46:=Tryz.underlying286
 a46:=Tryz.isAgg286
 z46:=Tryz.sizeOf286
 v46:=Tryz.zeroValue286
 t50:=Tryz.underlying128
 a50:=Tryz.isAgg128
 z50:=Tryz.sizeOf128
 v50:=Tryz.zeroValue128
 t53:=Tryz.underlying293
 a53:=Tryz.isAgg293
 z53:=Tryz.sizeOf293
 v53:=Tryz.zeroValue293
 t55:=Tryz.underlying295
 a55:=Tryz.isAgg295
 z55:=Tryz.sizeOf295
 v55:=Tryz.zeroValue295
 t66:=Tryz.underlying318
 a66:=Tryz.isAgg318
 z66:=Tryz.sizeOf318
 v66:=Tryz.zeroValue318
 t70:=Tryz.underlying322
 a70:=Tryz.isAgg322
 z70:=Tryz.sizeOf322
 v70:=Tryz.zeroValue322
 t76:=Tryz.underlying340
 a76:=Tryz.isAgg340
 z76:=Tryz.sizeOf340
 v76:=Tryz.zeroValue340
 t77:=Tryz.underlying74
 a77:=Tryz.isAgg74
 z77:=Tryz.sizeOf74
 v77:=Tryz.zeroValue74 }
end Go.Proofs
namespace Go.Ab
open Go.Proofs.Tryz
open Go.Proofs Go.Sort Go.RowKit Go.Lib
theorem Frm.grown {w w':World} (h:Frm (fun _=>False) w w') : ∃ q os,w'=grow (w.drewN q) os:=by
 obtain ⟨hh,ht,hd,ho,hp⟩:=w;obtain ⟨hh',ht',hd',ho',hp'⟩:=w';obtain ⟨h1,h2,h3,h4,h5,h6⟩:=h;simp only at h1 h2 h3 h4 h5 h6;refine ⟨hd'-hd,hh'.extract hh.size hh'.size,?_⟩;subst h1 h2 h3;have e:hd+(hd'-hd)=hd':=by omega
 show World.mk hh' ht' hd' ho' hp'=World.mk (hh++hh'.extract hh.size hh'.size) ht' (hd+(hd'-hd)) ho' hp';rw [e];congr 1;apply Array.ext
 ·simp;omega
 ·intro i hi1 hi2;by_cases hi:i<hh.size
  ·have:=h6 i hi id;rw [u5e hi1,u5e hi] at this;rw [Array.getElem_append_left hi];exact u6y this
  ·rw [Array.getElem_append_right (by omega)];simp;congr 1;omega
def PX (a b:Step):Bool:=decide (z6d a b<0)
theorem v4l (a b c:Int):orI [a,b,c]<0↔a<0∨a=0∧(b<0∨b=0∧c<0):=by
 by_cases h1:a=0<;>by_cases h2:b=0<;>by_cases h3:c=0<;>simp [orI,h1,h2,h3]
theorem MG (x y:Int):z7g x y<0↔x<y:=by
 unfold z7g;split
 ·omega
 ·split<;>omega
theorem GV (x y:Int):z7g x y=0↔x=y:=by
 unfold z7g;split
 ·omega
 ·split<;>omega
theorem z9p (a b:Step):z6d a b<0↔ZD a.src<ZD b.src∨ZD a.src=ZD b.src∧(ZD a.dst<ZD b.dst∨ZD a.dst=ZD b.dst∧a.kind<b.kind):=by
 unfold z6d;rw [v4l,MG,MG,MG,GV,GV]
def okSt (s:Step):Prop:=s.src≠9223372036854775807∧s.dst≠9223372036854775807
abbrev OSt:={s:Step // okSt s}
instance:Inhabited OSt:=⟨⟨⟨0,0,0⟩,by constructor<;>decide⟩⟩
def cfO (a b:OSt):Int:=z6d a.1 b.1
theorem DX {x y:Int} (hx:x≠9223372036854775807) (hy:y≠9223372036854775807) (h:ZD x=ZD y):x=y:=by
 unfold ZD at h;split at h<;>split at h<;>omega
theorem v3j:SWO (ltOf cfO):=by
 refine ⟨fun x => ?_,fun x y z h1 h2 => ?_,fun x y z h1 h2 => ?_⟩;all_goals
  unfold ltOf cfO at *
  simp only [u4b,u5a,z9p] at *
  omega
theorem v3k (x y:OSt) (h1:ltOf cfO x y=false) (h2:ltOf cfO y x=false):x=y:=by
 unfold ltOf cfO at *
 simp only [u5a,z9p] at h1 h2;obtain ⟨⟨a,b,c⟩,h3,h4⟩:=x;obtain ⟨⟨d,e,f⟩,h5,h6⟩:=y;simp only at *
 have e1:=DX (x:=a) (y:=d) h3 h5 (by omega);have e2:=DX (x:=b) (y:=e) h4 h6 (by omega);have e3:c=f:=by omega
 subst e1 e2 e3;rfl
def z0z (s:OSt):List Value:=[.int .i64 s.1.src,.int .i64 s.1.dst,.int .i64 s.1.kind]
theorem x0a {σ:Mem} (s:OSt):Rep σ (.agg s.1.cells) (.agg (z0z s).toArray):=by
 refine .agg _ _ (fun j=>(z0z s).toArray.getD j undef) rfl (fun j c hj => ?_) (fun j c hj => ?_)
 ·match j,hj with
  | 0,_=>rfl
  | 1,_=>rfl
  | 2,_=>rfl
 ·match j,hj with
  | 0,hj=>cases hj;exact .int _ _
  | 1,hj=>cases hj;exact .int _ _
  | 2,hj=>cases hj;exact .int _ _
theorem w8m (W:World) (x y:OSt):Calls prog 292 (#[.agg (z0z x).toArray,.agg (z0z y).toArray] ++ #[]) W fun e w'=>e = .returned (.int .i64 (cfO x y)) ∧ ∃ q os',w'=grow (W.drewN q) os':=by
 refine ((z5u x.1 y.1).ok (fun _=>none) W #[.agg (z0z x).toArray,.agg (z0z y).toArray] rfl (fun j c hj => ?_) (fun b c h=>by cases h)).mono ?_
 ·match j,hj with
  | 0,hj=>cases hj;exact x0a x
  | 1,hj=>cases hj;exact x0a y
 ·rintro e w' ⟨c,u,σ',rfl,rfl,hr,_,_,hf,_⟩;cases hr;exact ⟨rfl,hf.grown⟩
theorem w6i {σ:Mem} {l:List OSt} {vs:Array Value} (h : ∀ (m:Nat) (x:AV),(l.map fun s=>AV.agg s.1.cells)[m]? = some x->x.cells.length=3 ∧ ∀ (j:Nat) (c:AV),x.cells[j]? = some c -> ∃ u:Value,vs[m*3+j]? = some u∧Rep σ c u) {m j:Nat} (hm:m<l.length) (hj:j<3) :
  vs[m*3+j]? = (z0z l[m])[j]? := by
 have h1:=(h m (.agg l[m].1.cells) (by simp [hm])).2
 match j,hj with
 | 0,_ =>
   obtain ⟨u,h2,h3⟩:=h1 0 (.int .i64 l[m].1.src) rfl;cases h3;exact h2
 | 1,_ =>
   obtain ⟨u,h2,h3⟩:=h1 1 (.int .i64 l[m].1.dst) rfl;cases h3;exact h2
 | 2,_ =>
   obtain ⟨u,h2,h3⟩:=h1 2 (.int .i64 l[m].1.kind) rfl;cases h3;exact h2
theorem w6o {σ:Mem} {l:List OSt} {vs:Array Value} (h : ∀ (m:Nat) (hm:m<l.length) (j:Nat),j<3->vs[m*3+j]? = (z0z l[m])[j]?) : ∀ (m:Nat) (x:AV),(l.map fun s=>AV.agg s.1.cells)[m]? = some x->x.cells.length=3 ∧ ∀ (j:Nat) (c:AV),x.cells[j]? = some c -> ∃ u:Value,vs[m*3+j]? = some u∧Rep σ c u:=by
 intro m x hx;rw [u4q] at hx;cases hq:l[m]? with
 | none=>rw [hq] at hx;cases hx
 | some s =>
   rw [hq] at hx;cases hx;obtain ⟨hm,rfl⟩:=u3e.1 hq;refine ⟨rfl,fun j c hj => ?_⟩
   match j,hj with
   | 0,hj=>cases hj;exact ⟨_,h m hm 0 (by omega),.int _ _⟩
   | 1,hj=>cases hj;exact ⟨_,h m hm 1 (by omega),.int _ _⟩
   | 2,hj=>cases hj;exact ⟨_,h m hm 2 (by omega),.int _ _⟩
theorem z1l {d:Array OSt} {t:Nat} (h:t<d.size*3):(flatK z0z 3 d)[t]? = (z0z (d[t / 3]'(by omega)))[t % 3]? := by
 have h1:=get_flatK z0z 3 d t h;rw [u9s _ t (by simpa using h),u9s d (t / 3) (by omega)] at h1;rw [u5e (by simpa using h),h1];have h3:t % 3<(z0z (d[t / 3]'(by omega))).length:=by simp [z0z];omega
 rw [u3h h3,u9s (z0z (d[t / 3]'(by omega))) (t % 3) h3]
def KJ (l:List Step):List Step:=l.mergeSort fun x y => !PX y x
theorem q7z {l:List Step}:(KJ l).length=l.length:=by unfold KJ;simp
theorem x3u (l:List Step):(KJ l).Perm l:=List.mergeSort_perm _ _
theorem q0q (l:List OSt) (hlen:l.length<=1000000000) :
  SpecH prog 291 [.hd 1000 0 l.length,.p (.fn 292 [])] [(1000,.own 139 3 (l.map fun s => .agg s.1.cells))]
   (fun r H=>r = .p (.tup [])∧H=[(1000,.own 139 3 ((l.mergeSort fun x y => !(ltOf cfO) y x).map fun s => .agg s.1.cells))]):=by
 refine ⟨call291,fun σ β w vals hn hv hH => ?_⟩;obtain ⟨v,u,rfl⟩:=v8x hn;have hv1:RepL σ β (.hd 1000 0 l.length) v:=by simpa using hv 0 _ rfl
 have hv2:RepL σ β (.p (.fn 292 [])) u:=by simpa using hv 1 _ rfl
 obtain rfl:u = .func (.func 292) #[] #[]:=by
  cases hv2 with
  | p h=>cases h with
    | fn _ _ vs u hn' hc hr =>
      obtain rfl:vs = #[]:=Array.size_eq_zero_iff.1 hn';rfl
 have hch:=hH.chunks 1000 _ u3g;rcases hch with ⟨hb0,hes⟩|⟨i,vs,hi,hsz,hh,h2,h3,h4,h5⟩
 ·have hl0:l=[]:=List.map_eq_nil_iff.1 hes;subst hl0;obtain ⟨rfl,_⟩:=z7o hv1 hb0;have hc:=AnyF.slices_SortFunc_none x4f none 0 (.func (.func 292) #[] #[]) w;change Calls prog 291 _ _ _ at hc;refine hc.mono ?_;rintro e w' ⟨rfl,rfl⟩;exact ⟨.p (.tup []),.tuple #[],σ,β,_,rfl,⟨rfl,rfl⟩,.p (.tup [] #[] (fun _=>undef) rfl (by simp) (by simp)),by simpa using hH,by simpa using Later.refl _ _ _ _⟩
 ·have hve:=z2g hv1 hi;subst hve;have hlt:=(hH.apart 1000 (by simp) i hi i.blk i.has_blk).2;have hcap:l.length<=i.cap:=by simpa using h3
  have hle:l.length*3<=vs.size:=by rw [h2];omega
  have hget:=fun m j hm hj=>w6i (σ:=σ) (l:=l) h5 (m:=m) (j:=j) hm hj;have hc:=AnyQ.slices_SortFunc_total x4f 3 Tryz.isAgg139 Tryz.sizeOf139 z0z (fun _=>rfl) (fun x v hv=>by simp [z0z] at hv;rcases hv with rfl|rfl|rfl<;>rfl) cfO v3j 292 #[] i.blk 0 i.cap l.toArray w
   call292 (fun m os dk _ x y=>w8m _ x y) (fun t ht=>by
    have ht':t<l.toArray.size*3:=by simpa using ht
    refine ⟨?_,JU hh _⟩;have h6:=z1l ht';have h7:=hget (t / 3) (t % 3) (by simp at ht';omega) (by omega);rw [Nat.div_add_mod'] at h7;rw [DS hh,u5s,h7,u9s _ t (by simpa using ht')];rw [u5e (by simpa using ht')] at h6;simpa using h6.symm) hlt (by simp;omega) v3k
  simp only [u7a] at hc;change Calls prog 291 _ _ _ at hc;refine hc.mono ?_;rintro e w' ⟨rfl,n,os,rfl⟩;generalize hS:(l.mergeSort fun x y => !(ltOf cfO) y x)=S;have hSl:S.length=l.length:=by rw [<- hS];simp
  obtain ⟨hf,hb⟩:=q7l (enc:=id) (n:=n) (os:=os) (d:=flatK z0z 3 S.toArray) hh hlt;obtain ⟨hH',hL⟩:=x9q (c' := .own 139 3 (S.map fun s => .agg s.1.cells)) hH hi hf (.inr ⟨i,_,hi,hsz,hb,by rw [q4g];exact h2,by simp [hSl];exact hcap,h4,w6o fun m hm j hj=>by
   have h6:=NC (enc:=id) (d:=flatK z0z 3 S.toArray) (vs:=vs) (by simp [hSl];omega) (k:=m*3+j) (by simp;omega);have h7:=z1l (d:=S.toArray) (t:=m*3+j) (by simp;omega);rw [u5e (by simp;omega)] at h7;rw [h6];simp only [id];rw [h7];simp [show (m*3+j) / 3=m by omega,show (m*3+j) % 3=j by omega]⟩)
  exact ⟨.p (.tup []),.tuple #[],σ,β,_,rfl,⟨rfl,rfl⟩,.p (.tup [] #[] (fun _=>undef) rfl (by simp) (by simp)),hH',hL⟩
theorem x3w (l:List Step) (hok : ∀ s∈l,okSt s) (hlen:l.length<=1000000000) :
  SpecH prog 291 [.hd 1000 0 l.length,.p (.fn 292 [])] [(1000,.own 139 3 (l.map fun s => .agg s.cells))]
   (fun r H=>r = .p (.tup [])∧H=[(1000,.own 139 3 ((KJ l).map fun s => .agg s.cells))]):=by
 have h:=q0q (l.attachWith okSt hok) (by simpa using hlen);have e1:((l.attachWith okSt hok).map fun s=>AV.agg s.1.cells)=l.map fun s=>AV.agg s.cells:=by
  have:=u5j (List.map fun s:Step=>AV.agg s.cells) (List.attachWith_map_subtype_val (l:=l) (p:=okSt) hok);simp
 have e2:(((l.attachWith okSt hok).mergeSort fun x y => !(ltOf cfO) y x).map fun s=>AV.agg s.1.cells)=(KJ l).map fun s=>AV.agg s.cells:=by
  have h1:=List.map_mergeSort (l:=l.attachWith okSt hok) (f:=Subtype.val) (r:=fun x y => !(ltOf cfO) y x) (s:=fun x y => !PX y x) (fun a _ b _=>rfl);rw [List.attachWith_map_subtype_val] at h1;unfold KJ;rw [<- h1,u8a];rfl
 rw [e1,e2] at h;simpa using h
section
variable {P:Program} {T:Tab} {N:Nat}
theorem v3s {σ:Mem} {β:Lab} {k:Nat} {H H':Heap} {d:Chunk} {w w':World} {i:BInfo} (h:HRel σ β H w) (hk:k∈H.map (·.1)) (hi:β k=some i) (hf:Frm (fun b=>b=i.blk) w w')
  (h3:H'.map (·.1)=H.map (·.1)) (h4 : ∀ j c,(j,c)∈H'->j≠k->(j,c)∈H) (h5 : ∀ c,(k,c)∈H'->c=d) (hnew:d.holds σ β w' k):HRel σ β H' w'∧Later σ β H w σ β H' w':=by
 have hap:=h.apart k hk i hi;refine ⟨⟨fun b cs hb => ?_,fun j c hj => ?_,by rw [h3];exact h.nodup,fun j hj i' hi' b hb => ?_,fun j hj j' hj'=>h.inj j (h3▸hj) j' (h3▸hj')⟩,Mem.le_refl σ,⟨hf.os,hf.tape,hf.output,hf.drawn,hf.size,fun b hb hn=>hf.block b hb fun he=>hn ⟨k,hk,i,hi,.inl he.symm⟩⟩,
  fun b h0 h1=>absurd h0 h1,fun b ⟨j,hj,r⟩ => .inl ⟨j,h3▸hj,r⟩,fun _ _ _=>rfl⟩
 ·obtain ⟨e,fr,hh⟩:=h.mem b cs hb;exact ⟨e,fr,(hf.block b (u4g.1 hh).1 fun he=>by rw [he,(hap _ i.has_blk).1] at hb;cases hb).trans hh⟩
 ·by_cases hjk:j=k
  ·subst hjk;rw [h5 c hj];exact hnew
  ·have hm:=h4 j c hj hjk;have hjm:j∈H.map (·.1):=u3s.2 ⟨_,hm,rfl⟩;exact (h.chunks j c hm).mono (Mem.le_refl σ) fun i' hi' b hb=>hf.block b (h.apart j hjm i' hi' b hb).2 fun he=>hjk (h.inj j hjm k hk i' i hi' hi b hb (.inl he.symm))
 ·have:=h.apart j (h3▸hj) i' hi' b hb;exact ⟨this.1,u7z this.2 hf.size⟩
theorem OpK.clear (hT:TabOK P T) {s:St} {o:Oper} {K:St->Prop} {t:TypeId} {x:Operand} (hop:o.op = .call { callee := .builtin .clear,args := #[x],argTypes := #[t] }) {k off len:Nat} (hx:XX s.sl x = .hd k off len) {e sz:Nat} {es:List AV} (hg:getH s.H k=some (.own e sz es))
  {i ie:TyI} (ht:T.get t=some i) (hd:i.desc = .slice e) (hte:T.get e=some ie) (hz:ie.zero.cells.size=sz) (hone:ie.zero.cells.all (·.oneCell')=true) (hpos:0<sz)
  (h:z3m s.H k (.own e sz (es.take off)) fun H=>setD N s.sl o.dst (.p (.tup [])) fun sl=>K ⟨sl,H⟩):OpK P N s o K:=by
 refine ⟨fun σ β a w hr Q => ?_⟩;have hx':=QY hr.slots x;rw [hx] at hx';generalize hxe:a.eval x=v at hx';obtain ⟨H',hK,h3,h4,h5⟩:=ML hr.heap.nodup h;have hlab:=XN hg;have hu:=hT.of ht;rw [hd] at hu;have hue:=hT _ _ hte;have htup:RepL σ β (.p (.tup [])) (.tuple #[]) := .p (.tup [] #[] (fun _=>undef) rfl (by simp) (by simp));have hbc : ∀ {w'} ,(Builtin.clear_ #[t] o.type #[v]).run P w = .ok (.tuple #[]) w'->(execOp a.eval o).run P w = .ok (.value (.tuple #[])) w':=fun {w'} hc=>by
  simp [execOp,hop,resolve,invoke,builtin,hxe,hc]
 have hch:=hr.heap.chunks k _ (QT hg);have none':len=0->(Builtin.clear_ #[t] o.type #[v]).run P w = .ok (.tuple #[]) w->(o.wp P a w (fun a' w' => ∃ σ' β' s',K s'∧Rel N σ' β' s' a' w'∧Later σ β s.H w σ' β' s'.H w') Q):=fun _ hrun=>by
  have hheap:HRel σ β H' w∧Later σ β s.H w σ β H' w:=by
   refine ⟨⟨hr.heap.mem,fun j c hj => ?_,by rw [h3];exact hr.heap.nodup,fun j hj=>hr.heap.apart j (h3▸hj),fun j hj j' hj'=>hr.heap.inj j (h3▸hj) j' (h3▸hj')⟩,Mem.le_refl σ,Frm.refl _ w,fun b h0 h1=>absurd h0 h1,fun b ⟨j,hj,r⟩ => .inl ⟨j,h3▸hj,r⟩,fun _ _ _=>rfl⟩;by_cases hjk:j=k
   ·subst hjk;rw [h5 c hj];rcases hch with ⟨h6,h7⟩|⟨bi,vs,h6,h7,h8,h9,h10,h11,h12⟩
    ·exact .inl ⟨h6,by rw [h7];simp⟩
    ·exact .inr ⟨bi,vs,h6,h7,h8,h9,by simp;omega,h11,fun m x hx=>h12 m x (by rw [u5x] at hx;split at hx;exact hx;cases hx)⟩
   ·exact hr.heap.chunks j c (h4 j c hj hjk)
  have hr1:Rel N σ β ⟨s.sl,H'⟩ a w:=⟨hr.size,hr.defers,hr.slots,hheap.1⟩;obtain ⟨sl,hK,hr2⟩:=hr1.setD htup hK;exact UK (hbc hrun) ⟨σ,β,_,hK,hr2,hheap.2⟩
 rcases hx'.hdI with ⟨hk0,hoff,hlen,hv⟩|⟨bi,oo,hk,hfit,hoo,hv⟩
 ·subst hv;refine none' hlen ?_;simp [Builtin.clear_,run_underlying hu]
 by_cases hl0:len=0
 ·subst hl0 hv;refine none' rfl ?_;simp [Builtin.clear_,run_underlying hu]
 rcases hch with ⟨h6,_⟩|⟨bi',vs,h6,h7,h8,h9,h10,h11,h12⟩
 ·rw [hk] at h6;cases h6
 rw [hk] at h6;cases h6;have hoo:oo=off*sz:=by
  rcases hoo with hoo|⟨h13,_⟩
  ·rw [hoo,h7]
  ·omega
 obtain ⟨zs,hzs⟩ : ∃ zs,zs=(Builtin.zeroCells ie.zero.cells len).toList:=⟨_,rfl⟩;have hzl:zs.length=len*sz:=by rw [hzs];simp [Builtin.zeroCells,hz]
 have hz1 : ∀ v∈zs,v.oneCell'=true:=fun v hv=>by
  rw [hzs] at hv;simp only [Builtin.zeroCells,Array.toList_map,u3s] at hv;obtain ⟨q,hq,rfl⟩:=hv;have hlt:q % ie.zero.cells.size<ie.zero.cells.size:=Nat.mod_lt _ (by omega);rw [u9s ie.zero.cells (q % ie.zero.cells.size) hlt];exact Array.all_eq_true.1 hone _ hlt
 have hend:off*sz+len*sz<=vs.size:=by
  rw [h9,<- u6j];exact u5k _ hfit
 have hst:=run_storeCells_cells (P:=P) bi.blk oo zs 0 w (fun j hj=>by
   have:oo+0+j<vs.size:=by omega
   simp only [World.cell?,h8];rw [u5e this];rfl) (fun j hj=>by simp [World.frozen?,h8]) hz1
 have hrun:(Builtin.clear_ #[t] o.type #[v]).run P w = .ok (.tuple #[]) (w.setCells bi.blk oo zs):=by
  subst hv;have hzv:(zeroValue e).run P w = .ok ie.zero w:=by
   have:=hue.info;cases hq:P.info? e with
   | none=>rw [hq] at this;cases this
   | some f =>
     rw [hq] at this;simp at this;simp [zeroValue,typeInfo,hq,this]
  obtain ⟨len',rfl⟩ : ∃ l',len=l'+1:=⟨len-1,by omega⟩;simp only [u8e] at hst;simp [Builtin.clear_,Sem.run_bind,run_underlying hu,hzv,<- hzs,hst]
 obtain ⟨s1,s2⟩:=VU zs oo h8;have hnew:(Chunk.own e sz (es.take off)).holds σ β (w.setCells bi.blk oo zs) k:=by
  refine .inr ⟨bi,_,hk,h7,s1,by rw [YG];exact h9,by simp;omega,h11,fun m x hx => ?_⟩;rw [u5x] at hx;split at hx
  ·rename_i hm;obtain ⟨h13,h14⟩:=h12 m x hx;refine ⟨h13,fun j c hj => ?_⟩;obtain ⟨u,h15,h16⟩:=h14 j c hj;have hjl:j<sz:=by rw [<- h13];exact (u3e.1 hj).1
   have hlt:m*sz+j<off*sz:=by
    have:(m+1)*sz<=off*sz:=u5k _ hm;rw [u6j] at this;omega
   exact ⟨u,by rw [BJ _ _ _ _ (by omega),if_neg (by omega)];exact h15,h16⟩
  ·cases hx
 obtain ⟨hh,hl⟩:=v3s hr.heap hlab hk s2 h3 h4 h5 hnew;have hr1:Rel N σ β ⟨s.sl,H'⟩ a (w.setCells bi.blk oo zs):=⟨hr.size,hr.defers,hr.slots,hh⟩;obtain ⟨sl,hK,hr2⟩:=hr1.setD htup hK;exact UK (hbc hrun) ⟨σ,β,_,hK,hr2,hl⟩
end
def XH (p:Step):List Step->List Step
 | []=>[]
 | b::r=>bif ZO b p then XH b r else b::XH b r
def q1k:List Step->List Step
 | []=>[]
 | a::r=>a::XH a r
theorem z5z {l:List Step} (h:l.length<2):q1k l=l:=by
 match l,h with
 | [],_=>rfl
 | [a],_=>rfl
def avS (l:List Step):List AV:=l.map fun s => .agg s.cells
theorem q4n (l:List Step) (hlen:l.length<=1000000000) :
  SpecH prog 293 [.hd 1000 0 l.length,.p (.fn 294 [])] [(1000,.own 139 3 (avS l))]
   (fun r H=>r = .hd 1000 0 (q1k l).length∧H=[(1000,.own 139 3 (avS (q1k l)))]):=by
 refine sH VX func293 rfl call293 ?_;conv=>whnf
 repeat' (first|(refine iM fun _=>?_;conv=>whnf)|(apply bD<;>intro _<;>first|omega|conv=>whnf))
 ·have e:q1k l=l:=z5z (by omega);rw [e];exact ⟨_,u4v _,rfl,rfl⟩
 refine LoopK.inv QX (fun k:Nat=>⟨[(0,.hd 1000 0 l.length),(1,.p (.fn 294 [])),(5,.p (.int .i64 k))],[(1000,.own 139 3 (avS l))]⟩)
  (fun k=>1<=k∧k<=l.length ∧ ∃ a,l[k-1]? = some a∧l.take k++XH a (l.drop k)=q1k l) (fun k=>l.length-k) 1 (Le.of_eq rfl) ⟨u4j _,by omega,?_⟩ ?_
 ·cases l with
  | nil=>simp at *
  | cons a r=>exact ⟨a,rfl,rfl⟩
 rintro k ⟨h1,h2,a,ha,h3⟩;rcases u3r k l.length with hk|hk;rotate_left 1
 ·rw [u4z hk,u3o hk] at h3;conv=>whnf
  repeat' (first|(refine iM fun _=>?_;conv=>whnf)|(apply bD<;>intro _<;>first|omega|conv=>whnf))
  rw [<- h3,XH,u4e];exact ⟨_,u4v _,rfl,rfl⟩
 rw [u4n hk,XH] at h3;have hk1:k-1<l.length:=by omega
 obtain ⟨_,ha'⟩:=u3e.1 ha;have gk:(avS l)[k]? = some (.agg l[k].cells):=by simp [avS,hk]
 have gk1:(avS l)[k-1]? = some (.agg a.cells):=by simp [avS,ha]
 conv=>whnf
 repeat' (first|((first|(refine iM fun _=>?_)|refine cP (x1p _ _) ?_|refine dA ?_|refine u3d rfl ?_|refine wI ?_|refine u5q k (by omega) (by omega) ?_|refine u5q (k-1) (by omega) (by omega) ?_|refine u5y k 0 (.agg l[k].cells) (by omega) gk ?_|refine u5y (k-1) 0 (.agg a.cells) (by omega) gk1 ?_|refine SlK.mk k l.length rfl rfl (by omega) (by omega) ?_);conv=>whnf)|(apply bD<;>intro _<;>first|omega|conv=>whnf)|(apply bB<;>intro _<;>conv=>whnf))
 rotate_left 1
 ·have hsm:ZO l[k] a=false:=by assumption
  rw [hsm,u4h] at h3;exact ⟨k+1,⟨by omega,by omega,l[k],by simp [hk],by rw [<- h3,u3a hk,u4f];rfl⟩,by omega,Le.of_eq rfl⟩
 have hsm:ZO l[k] a=true:=by assumption
 rw [hsm,u4y] at h3;clear ha ha' gk gk1 hk1 hsm;refine LoopK.inv QX (fun x:Nat×Nat×List Step=>⟨[(0,.hd 1000 0 l.length),(1,.p (.fn 294 [])),(5,.p (.int .i64 x.2.1)),(6,.hd 1000 (0+k) (l.length-k)),(7,.p (.int .i64 x.1))],[(1000,.own 139 3 (avS x.2.2))]⟩)
  (fun x=>1<=x.1∧x.1<=l.length-k∧x.2.1<=k+x.1-1∧x.2.2.length=l.length∧x.2.2.drop (k+x.1-1)=l.drop (k+x.1-1) ∧ ∃ a,l[k+x.1-1]? = some a∧x.2.2.take x.2.1++XH a (l.drop (k+x.1))=q1k l) (fun x=>l.length-k-x.1) (1,k,l) (Le.of_eq rfl) ⟨u4j _,by simp only;omega,by simp only;omega,rfl,rfl,l[k],by simp [hk],h3⟩ ?_
 rintro ⟨q,i,es⟩ ⟨h4,h5,h6,h7,h8,a,ha,h9⟩;clear h3;simp only at h4 h5 h6 h7 h8 ha h9 ⊢;have hes:(avS es).length=l.length:=by simp [avS,h7]
 rcases u3r q (l.length-k) with hq|hq
 ·have hkq:k+q<l.length:=by omega
  have e1:es[k+q]? = l[k+q]? := by
   have:=u5j (fun x=>x[1]?) h8;simp only [u5o] at this
   rwa [show k+q-1+1=k+q by omega] at this
  have e2:es[k+q-1]? = some a:=by
   have:=u5j (fun x=>x[0]?) h8;simp only [u5o,u8e] at this;rw [this,ha]
  rw [u3h hkq] at e1;have gk:(avS es)[k+q]? = some (.agg l[k+q].cells):=by simp [avS,e1]
  have gk1:(avS es)[k+q-1]? = some (.agg a.cells):=by simp [avS,e2]
  have hi:i<es.length:=by omega
  have gi:(avS es)[i]? = some (.agg es[i].cells):=by simp [avS,hi]
  rw [u4n hkq,XH] at h9;conv=>whnf
  repeat' (first|((first|(refine iM fun _=>?_)|refine cP (x1p _ _) ?_|refine dA ?_|refine u3d rfl ?_|refine wI ?_|refine u5q q (by omega) (by omega) ?_|refine u5q (q-1) (by omega) (by omega) ?_|refine u5q i (by omega) (by omega) ?_|refine u5y (k+q) 0 (.agg l[k+q].cells) (by omega) gk ?_|refine u5y (k+q-1) 0 (.agg a.cells) (by omega) gk1 ?_|refine u6o i 0 (.agg es[i].cells) (.agg l[k+q].cells) (by omega) gi (show 3<=3 from u4j 3) rfl ?_);conv=>whnf)|(apply bD<;>intro _<;>first|omega|conv=>whnf)|(apply bN<;>intro _<;>conv=>whnf))
  ·have hsm:ZO l[k+q] a=true:=by assumption
   rw [hsm,u4y] at h9;exact ⟨(q+1,i,es),⟨by simp only;omega,by simp only;omega,by simp only;omega,h7,by
    have:=u5j (List.drop 1) h8;simp only [List.drop_drop] at this;simpa only [show k+(q+1)-1=k+q-1+1 by omega] using this,l[k+q],by simp [hkq],h9⟩,by simp only;omega,Le.of_eq rfl⟩
  ·have hsm:ZO l[k+q] a=false:=by assumption
   rw [hsm,u4h] at h9;have h10:(es.set i l[k+q]).drop (k+q)=l.drop (k+q):=by
    rw [List.drop_set_of_lt (by omega)];have:=u5j (List.drop 1) h8;simp only [List.drop_drop] at this
    rwa [show k+q-1+1=k+q by omega] at this
   exact ⟨(q+1,i+1,es.set i l[k+q]),⟨by simp only;omega,by simp only;omega,by simp only;omega,by simp only [u6i];exact h7,h10,l[k+q],by simp [hkq],by
    simp only;rw [<- h9,u3a (by simp;omega),List.take_set_of_le (by omega),List.getElem_set_self,u4f];rfl⟩,by simp only;omega,Le.of_eq (by simp only [avS,u6k];rfl)⟩
 ·have hqe:k+q=l.length:=by omega
  rw [hqe,List.drop_length,XH,u4e] at h9;conv=>whnf
  repeat' (first|((first|(refine iM fun _=>?_)|refine u3d rfl ?_|refine SlK.mk i l.length rfl rfl (by omega) (by omega) ?_);conv=>whnf)|(apply bD<;>intro _<;>first|omega|conv=>whnf))
  refine OpK.clear QX rfl rfl rfl rfl rfl rfl rfl (by kernel_rfl) (by decide) ?_;conv=>whnf
  repeat' ((first|refine u3d rfl ?_|refine SlK.mk 0 i rfl rfl (by omega) (by omega) ?_);conv=>whnf)
  have hl:i=(q1k l).length:=by rw [<- h9];simp;omega
  exact ⟨_,u8s (by rw [<- hl];rfl),rfl,by rw [u5s,<- h9];simp [avS,List.map_take]⟩
def WZ (l:List Step):List Step:=q1k (KJ l)
theorem z1r (l:List Step) (hok : ∀ s∈l,okSt s) (hlen:l.length<=1000000000) :
  SpecH prog 231 [.hd 1000 0 l.length] [(1000,.own 139 3 (avS l))] (fun r H=>r = .hd 1000 0 (WZ l).length∧H=[(1000,.own 139 3 (avS (WZ l)))]):=by
 refine sH z4b func231 rfl call231 ?_;conv=>whnf
 repeat' (first|(refine CallK.heap [(1000,1000)] 0 (by repeat' (first|exact u4s|refine u4w ?_ ?_|exact u4v _|exact u4p Sub.nils|exact u4p (Sub.tt rfl)|exact u4p (Sub.ff rfl)|exact u4p (Sub.int (by omega)))) (by refine u4x (j:=1000) rfl rfl ?_ ?_;exact CSub.refl _;exact u4c) (x3w l hok hlen) rfl rfl ?_;rintro l' H' ⟨rfl,rfl⟩;conv=>whnf)|(refine CallK.heap [(1000,1000)] 0 (u4w (u8s (by rw [q7z];rfl)) (u4w (u4v _) u4s)) (by refine u4x (j:=1000) rfl rfl ?_ ?_;exact CSub.refl _;exact u4c) (q4n (KJ l) (by rw [q7z];exact hlen)) rfl rfl ?_;rintro l' H' ⟨rfl,rfl⟩;conv=>whnf))
 exact ⟨_,u4v _,rfl,rfl⟩
def VV (sh:Sheet) (f:Pr) (it:Item):List Int :=
 if it.s.kind=5 then [x4x it.s.thn it.next,x4x it.s.els it.next]
 else if it.s.kind=6 then [x4x it.s.thn it.s.id,it.next]
 else if it.s.kind=7 then [((sh.l[(it.loop-1).toNat]?).map Item.next).getD 0]
 else if it.s.kind=8 then [it.loop]
 else if it.s.kind=9 then [-1]
 else if it.s.kind=10 then [(atB f it.s.name).1]
 else [it.next]
theorem x4o (l:List S) (o:Int):SpecP prog 318 [eSs l,.int .i64 o] (fun r=>r = .int .i64 (x4x l o)):=by
 unfold eSs;rw [S.avs_eq];exact w4z l o
theorem x1b (p:Pg) (j:Nat) (f:Pr) (hj:p.procs[j]? = some f) (hc:cntP p.procs<=1000) (it:Item) (hp:it.proc=j) (hl:it.s.kind=7->1<=it.loop∧it.loop<=(sheetOf p).l.length):SpecP prog 255 [.ip (sheetOf p).cells,.agg it.cells] (fun r=>r=QR (VV (sheetOf p) f it)):=by
 refine sB q5m func255 rfl call255 ?_;conv=>whnf
 have hlen:=(QJ p).2.2.2.1;have hx:it.s.kind=7 -> ∃ u,(sheetOf p).l[(it.loop-1).toNat]? = some u∧((sheetOf p).l.map fun i=>AV.agg i.cells)[(it.loop-1).toNat]? = some (.agg u.cells):=fun h=>by
  have:=hl h;have hlt:(it.loop-1).toNat<(sheetOf p).l.length:=by omega
  exact ⟨_,u3h hlt,by rw [u4q,u3h hlt];rfl⟩
 repeat' (first|((first|refine dA ?_|refine u3d rfl ?_|refine aD ?_|refine bP ?_|refine wI ?_|(refine CallK.pure (q3b p j f hj hc it.s.name) (.cons (Sub.refl _) (.cons (Sub.int hp) (.cons (Sub.refl _) .nil))) ?_;rintro _ rfl)|refine BsK.pureL rfl rfl ?_|refine cP (x4o it.s.thn _) ?_|refine cP (x4o it.s.els _) ?_|(obtain ⟨u,hu1,hu2⟩:=hx (by assumption);refine IdxK.at (by have:=hl (by assumption);omega) hu2 rfl ?_));conv=>whnf)|(apply bD<;>intro _<;>first|omega|conv=>whnf))
 all_goals first
  | exact RetK.p (by unfold VV;rw [if_neg (by assumption),if_neg (by assumption),if_pos (by assumption),hu1];rfl)
  | exact RetK.p (by unfold VV;rw [if_pos (by assumption)];rfl)
  | exact RetK.p (by unfold VV;rw [if_neg (by assumption),if_pos (by assumption)];rfl)
  | exact RetK.p (by unfold VV;rw [if_neg (by assumption),if_neg (by assumption),if_neg (by assumption),if_pos (by assumption)];rfl)
  | exact RetK.p (by unfold VV;rw [if_neg (by assumption),if_neg (by assumption),if_neg (by assumption),if_neg (by assumption),if_pos (by assumption)];rfl)
  | exact RetK.p (by unfold VV;rw [if_neg (by assumption),if_neg (by assumption),if_neg (by assumption),if_neg (by assumption),if_neg (by assumption),if_pos (by assumption)];rfl)
  | exact RetK.p (by unfold VV;rw [if_neg (by assumption),if_neg (by assumption),if_neg (by assumption),if_neg (by assumption),if_neg (by assumption),if_neg (by assumption)];rfl)
def QG (p:Pg) (j:Nat) (f:Pr):List Step :=
 ⟨0,if QN p.procs j<QN p.procs j+cntL f.body then ((QN p.procs j:Nat)+1:Int) else -1,1⟩::(itL j 0 (-1) 0 (QN p.procs j) f.body).flatMap fun it=>(VV (sheetOf p) f it).map (Step.mk it.s.id · 1)
def itsOf (p:Pg) (j:Nat) (f:Pr):List Item:=itL j 0 (-1) 0 (QN p.procs j) f.body
theorem q9x (p:Pg) (j:Nat) (f:Pr) (hj:p.procs[j]? = some f) (hc:cntP p.procs<=1000) (hl : ∀ it∈itsOf p j f,it.s.kind=7->1<=it.loop∧it.loop<=(sheetOf p).l.length) (hok : ∀ s∈QG p j f,okSt s):SpecP prog 203 [.ip (sheetOf p).cells,.int .i64 j] (fun r=>r=QL (WZ (QG p j f))):=by
 refine sB q2p func203 rfl call203 ?_;conv=>whnf
 obtain ⟨_,_,_,hlen,hsp⟩:=QJ p;obtain ⟨hlo,hhi,hle,_⟩:=hsp j f hj;repeat' ((first|(refine iM fun _=>?_)|refine u3d rfl ?_|refine aD ?_|refine cP (q9q (sheetOf p) j _ _ hlo hhi) ?_|refine cP (w0u p hj hc) ?_|refine u8x (fun x hx=>by rcases u3b.1 hx with rfl;rfl) rfl ?_);conv=>whnf)
 have hraw:QG p j f=⟨0,if QN p.procs j<QN p.procs j+cntL f.body then ((QN p.procs j:Nat)+1:Int) else -1,1⟩::(itsOf p j f).flatMap fun it=>(VV (sheetOf p) f it).map (Step.mk it.s.id · 1):=rfl;have hits:itL j 0 (-1) 0 (QN p.procs j) f.body=itsOf p j f:=rfl;have hpr : ∀ it∈itsOf p j f,it.proc=j:=fun it h=>q3s _ _ _ _ _ _ it h;have hib:(itsOf p j f).length<=1000:=by rw [<- hits,WR];omega
 rw [hits];generalize itsOf p j f=its at hl hraw hpr hib ⊢;have hil:=UL its;refine LoopK.inv QX (fun i:Nat×List Step=>⟨[(0,.p (.ip (sheetOf p).cells)),(5,.hd 0 0 i.2.length),(17,.p (YW its)),(18,.p (.int .i64 (its.map fun i=>AV.agg i.cells).length)),(19,.p (.int .i64 i.1))],[(0,.own 139 3 (avS i.2))]⟩)
  (fun i=>i.1<=its.length∧i.2.length<=1+2*i.1∧i.2++(its.drop i.1).flatMap (fun it=>(VV (sheetOf p) f it).map (Step.mk it.s.id · 1))=QG p j f) (fun i=>its.length-i.1) (0,[⟨0,if QN p.procs j<QN p.procs j+cntL f.body then ((QN p.procs j:Nat)+1:Int) else -1,1⟩]) (Le.of_eq rfl) ⟨u3l _,by simp,by rw [hraw];rfl⟩ ?_
 rintro ⟨m,acc⟩ ⟨h2,h3,h4⟩;simp only at h2 h3 h4 ⊢;rcases u3r m its.length with hm|hm;rotate_left 1
 ·have hacc:acc=QG p j f:=by
   rw [u4z hm] at h4;simpa using h4
  rw [<- hacc] at hok ⊢;conv=>whnf
  repeat' (first|(apply bD<;>intro _<;>first|omega|conv=>whnf)|(refine CallK.heap [(1000,0)] 0 (by repeat' (first|exact u4s|refine u4w ?_ ?_|exact u4v _|exact u4p Sub.nils|exact u4p (Sub.tt rfl)|exact u4p (Sub.ff rfl)|exact u4p (Sub.int (by omega)))) (by refine u4x (j:=0) rfl rfl ?_ ?_;exact CSub.refl _;exact u4c) (z1r acc hok (by omega)) rfl rfl ?_;rintro l' H' ⟨rfl,rfl⟩;conv=>whnf))
  exact ⟨_,.hd rfl (by simp [avS]),rfl⟩
 have hgl:(VV (sheetOf p) f its[m]).length<=2:=by unfold VV;split<;>(try split)<;>(try split)<;>(try split)<;>(try split)<;>(try split)<;>simp
 rw [JF hm] at h4;have him:=u3i hm;conv=>whnf
 repeat' (first|((first|(refine iM fun _=>?_)|refine u3d rfl ?_|(refine iA fun _=>?_)|refine cP (x1b p j f hj hc its[m] (hpr _ him) (hl _ him)) ?_);conv=>whnf)|(apply bD<;>intro _<;>first|omega|conv=>whnf))
 generalize hgs:VV (sheetOf p) f its[m]=gs at hgl h4 ⊢;have hgsl:(gs.map (AV.int .i64)).length=gs.length:=u3k _;refine LoopK.inv QX (fun i:Nat×List Step=>⟨[(0,.p (.ip (sheetOf p).cells)),(5,.hd 0 0 i.2.length),(7,.p (.ip its[m].cells)),(17,.p (YW its)),(18,.p (.int .i64 (its.map fun i=>AV.agg i.cells).length)),(19,.p (.int .i64 m)),(25,.p (QR gs)),(26,.p (.int .i64 (gs.map (AV.int .i64)).length)),(27,.p (.int .i64 i.1))],[(0,.own 139 3 (avS i.2))]⟩)
  (fun i=>i.1<=gs.length∧i.2.length<=acc.length+i.1∧i.2++((gs.drop i.1).map (Step.mk its[m].s.id · 1)++(its.drop (m+1)).flatMap (fun it=>(VV (sheetOf p) f it).map (Step.mk it.s.id · 1)))=QG p j f) (fun i=>gs.length-i.1) (0,acc) (Le.of_eq rfl) ⟨u3l _,by simp,h4⟩ ?_
 rintro ⟨q,acc2⟩ ⟨h5,h6,h7⟩;simp only at h5 h6 h7 ⊢;rcases u3r q gs.length with hq|hq;rotate_left 1
 ·rw [u4z hq] at h7;conv=>whnf
  repeat' (first|(refine wI ?_;conv=>whnf)|(apply bD<;>intro _<;>first|omega|conv=>whnf))
  exact ⟨(m+1,acc2),⟨by simp only;omega,by simp only;omega,by simpa using h7⟩,by simp only;omega,Le.of_eq rfl⟩
 rw [u4n hq,u4m] at h7;conv=>whnf
 repeat' (first|((first|refine u3d rfl ?_|refine aD ?_|refine bP ?_|(refine iA fun _=>?_)|refine wI ?_|refine u6q (by simp [avS]) rfl (by show (acc2.length+1)*24<=140737488355328;omega) (by show acc2.length+1<=9223372036854775807;omega) (fun x hx=>by rcases u3b.1 hx with rfl;exact ⟨rfl,rfl⟩) ?_);conv=>whnf)|(apply bD<;>intro _<;>first|omega|conv=>whnf))
 exact ⟨(q+1,acc2++[⟨its[m].s.id,gs[q],1⟩]),⟨by simp only;omega,by simp;omega,by simpa using h7⟩,by simp only;omega,Le.of_eq (by simp only [avS,u3f,u3t];rfl)⟩
def bv:Bool->AV
 | true => .tt
 | false => .ff
structure Way where
 p:Pg
 j:Nat
 n:Int
 real:List Step
 live:List Bool
def Way.cells (w:Way):List AV:=[.ip (sheetOf w.p).cells,.int .i64 w.j,.int .i64 w.n,QL w.real,.sl (w.live.map bv)]
def v1p (p:Pg) (j:Nat) (n:Int) (real:AV) (lv:List AV):Heap:=[(1000,.obj 137 [.p (.ip (sheetOf p).cells),.p (.int .i64 j),.p (.int .i64 n),.p real,.hd 2000 0 lv.length]),(2000,.own 4 1 lv)]
def VL (lo hi n x:Int):Int:=if x=0 then 0 else if x = -1 then n-1 else if lo<=x∧x<hi then x-lo+1 else -1
def loI (p:Pg) (j:Nat):Int:=(QN p.procs j:Nat)+1
def hiI (p:Pg) (j:Nat) (f:Pr):Int:=(QN p.procs j+cntL f.body:Nat)+1
theorem q4i (w:Way) (f:Pr) (hj:w.p.procs[w.j]? = some f) (hc:cntP w.p.procs<=1000) (hn:0<=w.n∧w.n<=5000) (x:Int):SpecP prog 117 [.ip w.cells,.int .i64 x] (fun r=>r = .int .i64 (VL (loI w.p w.j) (hiI w.p w.j f) w.n x)):=by
 refine sB PP func117 rfl call117 ?_;conv=>whnf
 obtain ⟨_,_,_,hlen,hsp⟩:=QJ w.p;obtain ⟨hlo,hhi,hle,_⟩:=hsp w.j f hj;repeat' (first|((first|refine dA ?_|refine wI ?_|(refine IdxK.at rfl (YZ hlo) rfl ?_)|(refine IdxK.at rfl (YZ hhi) rfl ?_));conv=>whnf)|(apply bD<;>intro _<;>first|omega|conv=>whnf))
 all_goals exact RetK.int (by unfold VL loI hiI;(repeat' split)<;>omega)
theorem x9t (p:Pg) (j:Nat) (f:Pr) (n:Int) (real:AV) (lv:List AV) (hj:p.procs[j]? = some f) (hc:cntP p.procs<=1000) (hn:0<=n∧n<=5000) (x:Int) :
  SpecH prog 117 [.ptr 1000 0,.p (.int .i64 x)] (v1p p j n real lv) (fun r H=>r = .p (.int .i64 (VL (loI p j) (hiI p j f) n x))∧H=v1p p j n real lv):=by
 obtain ⟨_,_,_,hlen,hsp⟩:=QJ p;obtain ⟨hlo,hhi,hle,_⟩:=hsp j f hj;refine sH PP func117 rfl call117 ?_;conv=>whnf
 repeat' (first|((first|refine dA ?_|refine wI ?_|(refine IdxK.at rfl (YZ hlo) rfl ?_)|(refine IdxK.at rfl (YZ hhi) rfl ?_));conv=>whnf)|(apply bD<;>intro _<;>first|omega|conv=>whnf))
 all_goals exact ⟨_,u4p (Sub.int (by unfold VL loI hiI;(repeat' split)<;>omega)),rfl,rfl⟩
def avP (l:List (Int×Int)):List AV:=l.map fun x => .agg [.int .i64 x.1,.int .i64 x.2]
def ixP (p:Pg) (j:Nat) (f:Pr) (n:Int) (s:Step):Int×Int:=(VL (loI p j) (hiI p j f) n s.src,VL (loI p j) (hiI p j f) n s.dst)
theorem BP (w:Way) (f:Pr) (hj:w.p.procs[w.j]? = some f) (hc:cntP w.p.procs<=1000) (hn:0<=w.n∧w.n<=5000) (l:List Step) (hlen:l.length<=1000000):SpecP prog 156 [.ip w.cells,QL l] (fun r=>r = .sl (avP (l.map (ixP w.p w.j f w.n)))):=by
 refine sB PN func156 rfl call156 ?_;conv=>whnf
 repeat' (refine iM fun _=>?_;conv=>whnf)
 have hl:(l.map fun s=>AV.agg s.cells).length=l.length:=u3k _;refine LoopK.inv QX (fun i:Nat×List (Int×Int)=>⟨[(0,.p (.ip w.cells)),(5,.hd 0 0 i.2.length),(8,.p (QL l)),(9,.p (.int .i64 (l.map fun s=>AV.agg s.cells).length)),(10,.p (.int .i64 i.1))],[(0,.own 227 2 (avP i.2))]⟩)
  (fun i=>i.1<=l.length∧i.2=(l.take i.1).map (ixP w.p w.j f w.n)) (fun i=>l.length-i.1) (0,[])
  (Le.mk [(0,.own 227 2 [])] (by simp [Chunk.new0];rfl) (by simp) (by simp) (.cons (.refl _) (.cons (.nil u3g) (.cons (.refl _) (.cons (.refl _) (.cons (.refl _) .nil))))) (.new u3g .nil))
  ⟨u3l _,rfl⟩ ?_
 rintro ⟨m,acc⟩ ⟨h2,h3⟩;simp only at h2 h3 ⊢;rcases u3r m l.length with hm|hm;rotate_left 1
 ·rw [u3o hm] at h3;subst h3;conv=>whnf
  repeat' (apply bD<;>intro _<;>first|omega|conv=>whnf)
  exact ⟨_,.hd rfl (by simp [avP]),rfl⟩
 have hacl:acc.length=m:=by rw [h3];simp;omega
 conv=>whnf
 repeat' (first|((first|refine dA ?_|refine u3d rfl ?_|refine aD ?_|refine bP ?_|(refine iA fun _=>?_)|refine wI ?_|refine cP (q4i w f hj hc hn _) ?_|refine u6q (by simp [avP]) rfl (by show (acc.length+1)*16<=140737488355328;omega) (by show acc.length+1<=9223372036854775807;omega) (fun x hx=>by rcases u3b.1 hx with rfl;exact ⟨rfl,rfl⟩) ?_);conv=>whnf)|(apply bD<;>intro _<;>first|omega|conv=>whnf))
 exact ⟨(m+1,acc++[ixP w.p w.j f w.n l[m]]),⟨by simp only;omega,by simp only;rw [h3,u3a hm,u3t];rfl⟩,by simp only;omega,Le.of_eq (by simp only [avP,u3f,u3t];rfl)⟩
theorem q7s {P:Program} {f:FuncId} {args:List LV} {H H0:Heap} {e:TypeId} {sz:Nat} {Q:List AV->Prop} (hrow:LO 0 H0 fun H=>H=H0)
  (h:SpecH P f args H (fun r H' => ∃ es,r = .hd 0 0 es.length∧H'=(0,.own e sz es)::H0∧Q es)):SpecH P f args H (fun r H' => ∃ es,r = .p (.sl es)∧H'=H0∧Q es):=by
 refine ⟨h.go,fun σ β w vals h1 h2 h3=>(h.ok σ β w vals h1 h2 h3).mono fun ex w' hx => ?_⟩;obtain ⟨l,u,σ',β',H',he,⟨es,rfl,rfl,hQ⟩,hrep,hrel,hlat⟩:=hx;obtain ⟨s',rfl,hle⟩:=Le.row (N:=1) (s:=⟨[(0,.hd 0 0 es.length)],(0,.own e sz es)::H0⟩) (k:=0) (e:=e) (sz:=sz) (es:=es) (zs:=[0]) rfl (K:=fun s=>s=⟨[(0,.p (.sl es))],H0⟩) (by
  show LenK es.length es _;refine ⟨rfl,?_⟩;show LO 0 H0 fun H=>(⟨[(0,.p (.sl es))],H⟩:St)=⟨[(0,.p (.sl es))],H0⟩;have key : ∀ {H1:Heap} {K K':Heap->Prop},(∀ H,K H->K' H)->LO 0 H1 K->LO 0 H1 K':=fun {H1}=>by
   induction H1 with
   | nil=>intro K K' hK h;exact hK _ h
   | cons x r ih =>
     intro K K' hK h;obtain ⟨j,c⟩:=x;simp only [LO] at h ⊢;cases hb:j==0 with
     | true =>
       simp only [hb,u4y] at h ⊢;exact ih hK h
     | false =>
       simp only [hb,u4h] at h ⊢;cases c with
       | obj e ls=>simp only [UX] at h ⊢;exact ih (fun H hH=>hK _ hH) h
       | own e sz es=>exact ih (fun H hH=>hK _ hH) h
       | ext x=>exact ih (fun H hH=>hK _ hH) h
  exact key (fun H hH=>by rw [hH]) hrow)
 obtain ⟨σ2,β2,hr2,hl2⟩:=hle σ' β' { tmps := #[u],defers:=[] } w' ⟨rfl,rfl,fun i=>by
  match i with
  | 0=>simpa [getS] using hrep
  | i+1=>exact .p (by simpa [getS] using Rep.any _),hrel⟩
 exact ⟨.p (.sl es),u,σ2,β2,H0,he,⟨es,rfl,rfl,hQ⟩,by simpa [getS] using hr2.slots 0,hr2.heap,hlat.trans hl2⟩
theorem x9s (p:Pg) (j:Nat) (f:Pr) (n:Int) (real:AV) (lv:List AV) (hj:p.procs[j]? = some f) (hc:cntP p.procs<=1000) (hn:0<=n∧n<=5000) (l:List Step) (hlen:l.length<=1000000) :
  SpecH prog 156 [.ptr 1000 0,.p (QL l)] (v1p p j n real lv) (fun r H => ∃ es,r = .p (.sl es)∧H=v1p p j n real lv∧es=avP (l.map (ixP p j f n))):=by
 refine q7s (e:=227) (sz:=2) rfl ?_;refine sH PN func156 rfl call156 ?_;conv=>whnf
 repeat' (refine iM fun _=>?_;conv=>whnf)
 have hl:(l.map fun s=>AV.agg s.cells).length=l.length:=u3k _;refine LoopK.inv QX (fun i:Nat×List (Int×Int)=>⟨[(0,.ptr 1000 0),(5,.hd 0 0 i.2.length),(8,.p (QL l)),(9,.p (.int .i64 (l.map fun s=>AV.agg s.cells).length)),(10,.p (.int .i64 i.1))],(0,.own 227 2 (avP i.2))::v1p p j n real lv⟩)
  (fun i=>i.1<=l.length∧i.2=(l.take i.1).map (ixP p j f n)) (fun i=>l.length-i.1) (0,[])
  (Le.mk [(0,.own 227 2 [])] (by simp [Chunk.new0];rfl) (by simp) (by simp [v1p]) (.cons (.refl _) (.cons (.nil u3g) (.cons (.refl _) (.cons (.refl _) (.cons (.refl _) .nil))))) (.new u3g (.cons rfl (.refl _) (.cons rfl (.refl _) .nil))))
  ⟨u3l _,rfl⟩ ?_
 rintro ⟨m,acc⟩ ⟨h2,h3⟩;simp only at h2 h3 ⊢;rcases u3r m l.length with hm|hm;rotate_left 1
 ·rw [u3o hm] at h3;subst h3;conv=>whnf
  repeat' (apply bD<;>intro _<;>first|omega|conv=>whnf)
  exact ⟨_,u4v _,avP (l.map (ixP p j f n)),by simp [avP],rfl,rfl⟩
 have hacl:acc.length=m:=by rw [h3];simp;omega
 conv=>whnf
 repeat' (first|((first|refine dA ?_|refine u3d rfl ?_|refine aD ?_|refine bP ?_|(refine iA fun _=>?_)|refine wI ?_|refine u6q (by simp [avP]) rfl (by show (acc.length+1)*16<=140737488355328;omega) (by show acc.length+1<=9223372036854775807;omega) (fun x hx=>by rcases u3b.1 hx with rfl;exact ⟨rfl,rfl⟩) ?_);conv=>whnf)|(apply bD<;>intro _<;>first|omega|conv=>whnf)|(refine CallK.heap [(1000,1000),(2000,2000)] 0 (by repeat' (first|exact u4s|refine u4w ?_ ?_|exact u4v _|exact u4p Sub.nils|exact u4p (Sub.tt rfl)|exact u4p (Sub.ff rfl)|exact u4p (Sub.int (by omega)))) (by refine u4x (j:=1000) rfl rfl ?_ ?_;exact CSub.refl _;refine u4x (j:=2000) rfl rfl ?_ ?_;exact CSub.refl _;exact u4c) (x9t p j f n real lv hj hc hn _) rfl rfl ?_;rintro l' H' ⟨rfl,rfl⟩;conv=>whnf))
 exact ⟨(m+1,acc++[ixP p j f n l[m]]),⟨by simp only;omega,by simp only;rw [h3,u3a hm,u3t];rfl⟩,by simp only;omega,Le.mk [] (by simp) (by simp) (by simp [v1p]) (.cons (.refl _) (.cons (.of_eq (by simp only [u3f];rfl)) (.cons (.refl _) (.cons (.refl _) (.cons (.of_eq rfl) .nil))))) (.cons rfl (.of_eq (by simp only [avP,u3t];rfl)) (.cons rfl (.refl _) (.cons rfl (.refl _) .nil)))⟩
theorem z5f {l:List Int} {x:Int} (h:l.Pairwise (· <= ·)):(q8k l (l.countP (· < x)) x).Pairwise (· <= ·):=by
 induction l with
 | nil=>simp [q8k]
 | cons a r ih =>
   obtain ⟨h1,h2⟩:=u6s.1 h;by_cases ha:a<x
   ·have e:q8k (a::r) ((a::r).countP (· < x)) x=a::q8k r (r.countP (· < x)) x:=by
     unfold q8k;rw [List.countP_cons_of_pos (by simpa using ha)];rfl
    rw [e,u6s];refine ⟨fun b hb => ?_,ih h2⟩;unfold q8k at hb;rcases u3p.1 hb with hb|hb
    ·exact h1 b (u9b hb)
    ·rcases u3c.1 hb with rfl|hb
     ·omega
     ·exact h1 b (List.mem_of_mem_drop hb)
   ·have e0:(a::r).countP (· < x)=0:=by
     rw [List.countP_eq_zero];intro b hb;rcases u3c.1 hb with rfl|hb
     ·simpa using ha
     ·have:=h1 b hb;simp;omega
    rw [e0];show (x::a::r).Pairwise (· <= ·);refine u6s.2 ⟨fun b hb => ?_,h⟩;rcases u3c.1 hb with rfl|hb
    ·omega
    ·have:=h1 b hb;omega
def x1s (n m:Nat) (N:List (List Int)):Prop:=N.length=n ∧ ∀ r∈N,r.Pairwise (· <= ·)∧r.length<=m
theorem z2w {n m:Nat} {N:List (List Int)} (h:x1s n m N) (a:Nat) (b:Int):x1s n (m+1) (x6q N a b):=by
 unfold x6q;refine ⟨by rw [u6i];exact h.1,fun r hr => ?_⟩;rcases u8v hr with hr|rfl
 ·obtain ⟨h1,h2⟩:=h.2 r hr;exact ⟨h1,by omega⟩
 ·rcases u3r a N.length with ha|ha
  ·have hm:N.getD a []∈N:=by
    rw [u3m,u3h ha];exact u3i ha
   obtain ⟨h1,h2⟩:=h.2 _ hm;exact ⟨z5f h1,by rw [q9e List.countP_le_length];omega⟩
  ·have:N.getD a []=[]:=by simp [u5d ha]
   rw [this];exact ⟨by simp [q8k],by simp [q8k]⟩
theorem x5j {n m m':Nat} {N:List (List Int)} (h:x1s n m N) (hm:m<=m'):x1s n m' N:=⟨h.1,fun r hr=>⟨(h.2 r hr).1,u5r (h.2 r hr).2 hm⟩⟩
def z0x (n:Nat) (g:List (List Int)×List (List Int)) (e:Int×Int):List (List Int)×List (List Int) :=
 bif WP n e.1&&WP n e.2 && !(g.1.getD e.1.toNat []).contains e.2 then (x6q g.1 e.1.toNat e.2,x6q g.2 e.2.toNat e.1) else g
def XJ (n:Nat) (l:List (Int×Int)):List (List Int)×List (List Int):=l.foldl (z0x n) (List.replicate n [],List.replicate n [])
def q8z (m:List (List Int)):AV := .sl ((avI m).map .sl)
def FT (g:List (List Int)×List (List Int)):AV := .ip [q8z g.1,q8z g.2]
theorem x0c (n:Nat) (g:List (List Int)×List (List Int)) (e:Int×Int):(z0x n g e).1=bif WP n e.1&&WP n e.2 && !(g.1.getD e.1.toNat []).contains e.2 then x6q g.1 e.1.toNat e.2 else g.1:=by
 unfold z0x;cases WP n e.1&&WP n e.2 && !(g.1.getD e.1.toNat []).contains e.2<;>rfl
theorem x4d (n:Nat) (g:List (List Int)×List (List Int)) (e:Int×Int):(z0x n g e).2=bif WP n e.1&&WP n e.2 && !(g.1.getD e.1.toNat []).contains e.2 then x6q g.2 e.2.toNat e.1 else g.2:=by
 unfold z0x;cases WP n e.1&&WP n e.2 && !(g.1.getD e.1.toNat []).contains e.2<;>rfl
theorem w8k {n m:Nat} {g:List (List Int)×List (List Int)} (h:x1s n m g.1∧x1s n m g.2) (e:Int×Int):x1s n (m+1) (z0x n g e).1∧x1s n (m+1) (z0x n g e).2:=by
 rw [x0c,x4d];cases WP n e.1&&WP n e.2 && !(g.1.getD e.1.toNat []).contains e.2
 ·exact ⟨x5j h.1 (by omega),x5j h.2 (by omega)⟩
 ·exact ⟨z2w h.1 _ _,z2w h.2 _ _⟩
theorem q1p {n m:Nat} {l:List (Int×Int)} (hm:m<l.length):XJ n (l.take (m+1))=z0x n (XJ n (l.take m)) l[m]:=by
 unfold XJ;rw [u3a hm,List.foldl_append];rfl
theorem q6g {n:Nat} {l:List (Int×Int)} : ∀ {m:Nat},m<=l.length->x1s n m (XJ n (l.take m)).1∧x1s n m (XJ n (l.take m)).2
 | 0,_=>by
   have:x1s n 0 (List.replicate n []):=⟨by simp,fun r hr=>by rw [u6b hr];simp⟩;exact ⟨this,this⟩
 | m+1,h=>by
   rw [q1p h];exact w8k (q6g (by omega)) _
theorem x5t {N':Nat} {sl:List (Nat×LV)} (n a b:Nat) (h0:(sl.all fun x=>x.2.xfree 0)=true) (h1:(sl.all fun x=>x.2.xfree 1)=true) :
  Le N' ⟨sl,[(2,.obj 273 [.hd a 0 n,.hd b 0 n]),(1,.own 70 1 (List.replicate n .nils)),(0,.own 70 1 (List.replicate n .nils))]⟩
   ⟨sl,[(2,.obj 273 [.hd a 0 n,.hd b 0 n]),(1,.ext (.mat 70 3 1 (List.replicate n []) [])),(0,.ext (.mat 70 3 1 (List.replicate n []) []))]⟩:=by
 have hm:=x7g (N:=N') (sl:=sl) (H:=[(2,.obj 273 [.hd a 0 n,.hd b 0 n]),(1,.own 70 1 (List.replicate n .nils)),(0,.own 70 1 (List.replicate n .nils))])
  (H':=[(2,.obj 273 [.hd a 0 n,.hd b 0 n]),(1,.own 70 1 (List.replicate n .nils)),(0,.ext (.mat 70 3 1 (List.replicate (List.replicate n AV.nils).length []) []))])
  0 3 1 (e:=70) (es:=List.replicate n .nils) rfl (fun x hx=>u6b hx) rfl h0 rfl rfl (by simp [BW])
 have hm2:=x7g (N:=N') (sl:=sl) (H:=[(2,.obj 273 [.hd a 0 n,.hd b 0 n]),(1,.own 70 1 (List.replicate n .nils)),(0,.ext (.mat 70 3 1 (List.replicate (List.replicate n AV.nils).length []) []))])
  (H':=[(2,.obj 273 [.hd a 0 n,.hd b 0 n]),(1,.ext (.mat 70 3 1 (List.replicate (List.replicate n AV.nils).length []) [])),(0,.ext (.mat 70 3 1 (List.replicate (List.replicate n AV.nils).length []) []))])
  1 3 1 (e:=70) (es:=List.replicate n .nils) rfl (fun x hx=>u6b hx) rfl h1 rfl rfl (by simp [BW])
 have:=hm.trans hm2;simpa using this
theorem z2u (n:Nat) (hn:n<=5000) (l:List (Int×Int)) (hlen:l.length<=1000000):SpecP prog 256 [.int .i64 n,.sl (avP l)] (fun r=>r=FT (XJ n l)):=by
 refine sB z4m func256 rfl call256 ?_;conv=>whnf
 repeat' (first|((first|(refine iM fun _=>?_)|refine dA ?_|refine u3d rfl ?_|refine aR ?_|refine MkK.mk n rfl (by show 24*n<=140737488355328;omega) (by unfold maxLen;omega) ?_);conv=>whnf)|(apply bD<;>intro _<;>first|omega|conv=>whnf)|(refine u3d ?_ ?_<;>conv=>whnf))
 all_goals have hl:(avP l).length=l.length:=u3k _
 ·refine LoopK.inv QX (fun m:Nat=>⟨[(5,.ptr (0+1+1) 0),(20,.p (.sl (avP l))),(21,.p (.int .i64 (avP l).length)),(22,.p (.int .i64 m))],[(0+1+1,.obj 273 [.hd 0 0 n,.hd (0+1) 0 n]),(0,.ext (.mat 70 3 1 (avI (XJ n (l.take m)).1) [])),(0+1,.ext (.mat 70 3 1 (avI (XJ n (l.take m)).2) []))]⟩)
   (fun m=>m<=l.length) (fun m=>l.length-m) 0 (by
     refine Le.trans (x5t n _ _ rfl rfl) ?_;exact Le.mk [] (by simp) (by simp) (by simp) (.cons (.refl _) (.cons (.refl _) (.cons (.refl _) (.cons (.refl _) .nil)))) (.cons rfl (.refl _) (.cons rfl (.of_eq (by simp [avI,XJ])) (.cons rfl (.of_eq (by simp [avI,XJ])) .nil)))) (u3l _) ?_
  rintro m h2;obtain ⟨g1,g2⟩:=q6g (n:=n) h2;rcases u3r m l.length with hm|hm
  ·have hme:(avP l)[m]? = some (.agg [.int .i64 l[m].1,.int .i64 l[m].2]):=by simp [avP,hm]
   conv=>whnf
   repeat' (first|((first|refine u3d rfl ?_|refine wI ?_|(refine IdxK.at rfl hme rfl ?_)|refine u5q 0 rfl (by decide) ?_|refine u5q 1 rfl (by decide) ?_);conv=>whnf)|(apply bD<;>intro _<;>first|omega|conv=>whnf)|(refine CallK.heap [(1000,0+1+1),(2001,0),(2002,1)] 0 (by repeat' (first|exact u4s|refine u4w ?_ ?_|exact u4v _|exact u4p Sub.nils|exact u4p (Sub.tt rfl)|exact u4p (Sub.ff rfl)|exact u4p (Sub.int (by omega)))) (by refine u4x (j:=2) rfl rfl ?_ ?_;exact CSub.refl _;refine u4x (j:=0) rfl rfl ?_ ?_;exact CSub.refl _;refine u4x (j:=1) rfl rfl ?_ ?_;exact CSub.refl _;exact u4c) (z2v n _ _ l[m].1 l[m].2 g1.1 g2.1 hn (fun r hr=>⟨(g1.2 r hr).1,by have:=(g1.2 r hr).2;omega⟩) (fun r hr=>⟨(g2.2 r hr).1,by have:=(g2.2 r hr).2;omega⟩)) rfl rfl ?_;rintro l' H' ⟨t,rfl,rfl⟩;conv=>whnf))
   exact ⟨m+1,hm,by omega,Le.of_eq (by rw [q1p hm,x0c,x4d];rfl)⟩
  ·rw [u3o hm] at g1 g2 ⊢;conv=>whnf
   repeat' (apply bD<;>intro _<;>first|omega|conv=>whnf)
   exact ⟨_,.ptr (cs:=[q8z (XJ n l).1,q8z (XJ n l).2]) rfl rfl (fun i x c h1 h3=>by
    match i,h1,h3 with
    | 0,h1,h3=>cases h1;cases h3;exact .mat rfl (by rw [avI,u3k,g1.1])
    | 1,h1,h3=>cases h1;cases h3;exact .mat rfl (by rw [avI,u3k,g2.1])),rfl⟩
 ·refine LoopK.inv QX (fun m:Nat=>⟨[(5,.ptr (0+1+1) 0),(20,.p (.sl (avP l))),(21,.p (.int .i64 (avP l).length)),(22,.p (.int .i64 m))],[(0+1+1,.obj 273 [.hd (0+1) 0 n,.hd 0 0 n]),(0+1,.ext (.mat 70 3 1 (avI (XJ n (l.take m)).1) [])),(0,.ext (.mat 70 3 1 (avI (XJ n (l.take m)).2) []))]⟩)
   (fun m=>m<=l.length) (fun m=>l.length-m) 0 (by
     refine Le.trans (x5t n _ _ rfl rfl) ?_;exact Le.mk [] (by simp) (by simp) (by simp) (.cons (.refl _) (.cons (.refl _) (.cons (.refl _) (.cons (.refl _) .nil)))) (.cons rfl (.refl _) (.cons rfl (.of_eq (by simp [avI,XJ])) (.cons rfl (.of_eq (by simp [avI,XJ])) .nil)))) (u3l _) ?_
  rintro m h2;obtain ⟨g1,g2⟩:=q6g (n:=n) h2;rcases u3r m l.length with hm|hm
  ·have hme:(avP l)[m]? = some (.agg [.int .i64 l[m].1,.int .i64 l[m].2]):=by simp [avP,hm]
   conv=>whnf
   repeat' (first|((first|refine u3d rfl ?_|refine wI ?_|(refine IdxK.at rfl hme rfl ?_)|refine u5q 0 rfl (by decide) ?_|refine u5q 1 rfl (by decide) ?_);conv=>whnf)|(apply bD<;>intro _<;>first|omega|conv=>whnf)|(refine CallK.heap [(1000,0+1+1),(2001,1),(2002,0)] 0 (by repeat' (first|exact u4s|refine u4w ?_ ?_|exact u4v _|exact u4p Sub.nils|exact u4p (Sub.tt rfl)|exact u4p (Sub.ff rfl)|exact u4p (Sub.int (by omega)))) (by refine u4x (j:=2) rfl rfl ?_ ?_;exact CSub.refl _;refine u4x (j:=1) rfl rfl ?_ ?_;exact CSub.refl _;refine u4x (j:=0) rfl rfl ?_ ?_;exact CSub.refl _;exact u4c) (z2v n _ _ l[m].1 l[m].2 g1.1 g2.1 hn (fun r hr=>⟨(g1.2 r hr).1,by have:=(g1.2 r hr).2;omega⟩) (fun r hr=>⟨(g2.2 r hr).1,by have:=(g2.2 r hr).2;omega⟩)) rfl rfl ?_;rintro l' H' ⟨t,rfl,rfl⟩;conv=>whnf))
   exact ⟨m+1,hm,by omega,Le.of_eq (by rw [q1p hm,x0c,x4d];rfl)⟩
  ·rw [u3o hm] at g1 g2 ⊢;conv=>whnf
   repeat' (apply bD<;>intro _<;>first|omega|conv=>whnf)
   exact ⟨_,.ptr (cs:=[q8z (XJ n l).1,q8z (XJ n l).2]) rfl rfl (fun i x c h1 h3=>by
    match i,h1,h3 with
    | 0,h1,h3=>cases h1;cases h3;exact .mat rfl (by rw [avI,u3k,g1.1])
    | 1,h1,h3=>cases h1;cases h3;exact .mat rfl (by rw [avI,u3k,g2.1])),rfl⟩
def HH (st:List Bool×List Int) (b:Int):List Bool×List Int:=bif st.1.getD b.toNat false then st else (st.1.set b.toNat true,st.2++[b])
def ZT (rows:List (List Int)):Nat->Nat->List Bool×List Int->List Bool×List Int
 | 0,_,st=>st
 | k+1,i,st=>match st.2[i]? with
   | some a=>ZT rows k (i+1) ((rows.getD a.toNat []).foldl HH st)
   | none=>st
def wkInv (n:Nat) (st:List Bool×List Int):Prop:=st.1.length=n∧st.2.length<=st.1.count true ∧ ∀ x∈st.2,0<=x∧x<n
theorem q4b {n:Nat} {st:List Bool×List Int} (h:wkInv n st) {b:Int} (hb:0<=b∧b<n):wkInv n (HH st b):=by
 unfold HH;obtain ⟨h1,h2,h3⟩:=h;have hlt:b.toNat<st.1.length:=by omega
 cases hs:st.1.getD b.toNat false with
 | true=>exact ⟨h1,h2,h3⟩
 | false =>
   have hg:st.1[b.toNat]=false:=by simpa [hlt] using hs
   refine ⟨by simpa using h1,?_,fun x hx => ?_⟩
   ·simp only [u4h,u3f,u4l];rw [List.count_set hlt,hg];simp;omega
   ·rcases u3p.1 hx with hx|hx
    ·exact h3 x hx
    ·rw [u3b.1 hx];exact hb
theorem w4y {n:Nat} {l:List Int} : ∀ {st:List Bool×List Int},wkInv n st->(∀ b∈l,0<=b∧b<n)->wkInv n (l.foldl HH st):=by
 induction l with
 | nil=>intro st h _;exact h
 | cons b r ih=>intro st h hl;exact ih (q4b h (hl b u3g)) fun c hc=>hl c (u3n _ hc)
theorem MY {n:Nat} {st:List Bool×List Int} (h:wkInv n st):st.2.length<=n:=by
 refine u5r h.2.1 ?_;rw [<- h.1];exact List.count_le_length
def XT (n:Nat) (rows:List (List Int)):Prop:=rows.length=n ∧ ∀ r∈rows,∀ b∈r,0<=b∧b<n
def w7o (st:List Bool×List Int):Heap:=[(1000,.own 4 1 (st.1.map bv)),(2000,.own 3 1 (st.2.map (.int .i64)))]
theorem x5k (n:Nat) (hn:n<=5000) (rows:List (List Int)) (hr:XT n rows) (st:List Bool×List Int) (hs:wkInv n st) :
  SpecH prog 258 [.p (q8z rows),.hd 1000 0 n,.hd 2000 0 st.2.length] (w7o st) (fun r H=>r = .hd 2000 0 (ZT rows (n+1) 0 st).2.length∧H=w7o (ZT rows (n+1) 0 st)):=by
 refine sH z0j func258 rfl call258 ?_;conv=>whnf
 skip
 refine LoopK.inv QX (fun x:Nat×List Bool×List Int=>⟨[(0,.p (q8z rows)),(1,.hd 1000 0 n),(2,.hd 2000 0 x.2.2.length),(7,.p (.int .i64 x.1))],w7o x.2⟩)
  (fun x=>wkInv n x.2∧x.1<=x.2.2.length∧ZT rows (n+1-x.1) x.1 x.2=ZT rows (n+1) 0 st) (fun x=>n-x.1) (0,st) (Le.of_eq rfl) ⟨hs,u3l _,rfl⟩ ?_
 rintro ⟨i,seen,todo⟩ ⟨h1,h2,h3⟩;simp only at h1 h2 h3 ⊢;have hle:=MY h1;simp only at hle;rw [show n+1-i=n-i+1 by omega,ZT] at h3;rcases u3r i todo.length with hi|hi;rotate_left 1
 ·simp only [u5d hi] at h3;conv=>whnf
  repeat' (first|(refine iM fun _=>?_;conv=>whnf)|(apply bD<;>intro _<;>first|omega|conv=>whnf))
  exact ⟨_,u8s (by rw [<- h3]),rfl,by rw [<- h3];rfl⟩
 simp only [u3h hi] at h3;have hx:=h1.2.2 _ (u3i hi);have hxr:todo[i].toNat<rows.length:=by rw [hr.1];omega
 have hrow:((avI rows).map AV.sl)[todo[i].toNat]? = some (.sl (rows[todo[i].toNat].map (.int .i64))):=by simp [avI,hxr]
 have hgd:rows.getD todo[i].toNat []=rows[todo[i].toNat]:=by simp [hxr]
 rw [hgd] at h3;have hrin:=hr.2 _ (u3i hxr);conv=>whnf
 repeat' (first|((first|(refine iM fun _=>?_)|refine u3d rfl ?_|refine u5q i (by omega) (by omega) ?_|refine u5y i 0 (.int .i64 todo[i]) (by omega) (by simp [hi]) ?_|(refine IdxK.at (by omega) hrow rfl ?_));conv=>whnf)|(apply bD<;>intro _<;>first|omega|conv=>whnf))
 have hrb:(rows[todo[i].toNat].map (AV.int .i64)).length<=9223372036854775807:=by assumption
 generalize rows[todo[i].toNat]=row at hrin h3 hrb ⊢;have hrl:(row.map (AV.int .i64)).length=row.length:=u3k _;refine LoopK.inv QX (fun x:Nat×List Bool×List Int=>⟨[(0,.p (q8z rows)),(1,.hd 1000 0 n),(2,.hd 2000 0 x.2.2.length),(7,.p (.int .i64 i)),(22,.p (.sl (row.map (.int .i64)))),(23,.p (.int .i64 (row.map (AV.int .i64)).length)),(24,.p (.int .i64 x.1))],w7o x.2⟩)
  (fun x=>wkInv n x.2∧todo.length<=x.2.2.length∧x.1<=row.length∧ZT rows (n-i) (i+1) ((row.drop x.1).foldl HH x.2)=ZT rows (n+1) 0 st) (fun x=>row.length-x.1) (0,seen,todo) (Le.of_eq rfl) ⟨h1,u4j _,u3l _,h3⟩ ?_
 rintro ⟨q,s2,t2⟩ ⟨h4,h5,h6,h7⟩;simp only at h4 h5 h6 h7 ⊢;have hle2:=MY h4;simp only at hle2;rcases u3r q row.length with hq|hq;rotate_left 1
 ·rw [u4z hq] at h7;conv=>whnf
  repeat' (first|(refine wI ?_;conv=>whnf)|(apply bD<;>intro _<;>first|omega|conv=>whnf))
  exact ⟨(i+1,s2,t2),⟨h4,by simp only;omega,by simp only;rw [show n+1-(i+1)=n-i by omega];exact h7⟩,by simp only;omega,Le.of_eq rfl⟩
 rw [u4n hq,u6e] at h7;have hb:=hrin _ (u3i hq);have h8:=q4b h4 hb;have hbl:row[q].toNat<s2.length:=by have:=h4.1;simp only at this;omega
 cases hsb:s2.getD row[q].toNat false with
 | true =>
   have e1:HH (s2,t2) row[q]=(s2,t2):=by unfold HH;simp only [hsb,u4y]
   have e2:(s2.map bv)[row[q].toNat]? = some .tt:=by
    have:s2[row[q].toNat]=true:=by simpa [hbl] using hsb
    simp [hbl,this,bv]
   rw [e1] at h7;conv=>whnf
   repeat' (first|((first|refine u3d rfl ?_|(refine iA fun _=>?_)|refine wI ?_|refine u5q row[q].toNat (by omega) (by have:=h4.1;simp only at this;omega) ?_|refine u5y row[q].toNat 0 .tt (by omega) e2 ?_);conv=>whnf)|(apply bD<;>intro _<;>first|omega|conv=>whnf))
   all_goals exact ⟨(q+1,s2,t2),⟨h4,h5,by simp only;omega,h7⟩,by simp only;omega,Le.of_eq rfl⟩
 | false =>
   have e1:HH (s2,t2) row[q]=(s2.set row[q].toNat true,t2++[row[q]]):=by unfold HH;simp only [hsb,u4h]
   have e2:(s2.map bv)[row[q].toNat]? = some .ff:=by
    have:s2[row[q].toNat]=false:=by simpa [hbl] using hsb
    simp [hbl,this,bv]
   rw [e1] at h7 h8;conv=>whnf
   repeat' (first|((first|refine u3d rfl ?_|refine aD ?_|refine bP ?_|(refine iA fun _=>?_)|refine wI ?_|refine u5q row[q].toNat (by omega) (by have:=h4.1;simp only at this;omega) ?_|refine u5y row[q].toNat 0 .ff (by omega) e2 ?_|refine u6o row[q].toNat 0 .ff .tt (by omega) e2 (u4j 1) rfl ?_|refine ZZ (by simp) (by simp;omega) ?_);conv=>whnf)|(apply bD<;>intro _<;>first|omega|conv=>whnf))
   all_goals exact ⟨(q+1,s2.set row[q].toNat true,t2++[row[q]]),⟨h8,by simp;omega,by simp only;omega,h7⟩,by simp only;omega,Le.of_eq (by simp only [w7o,u3f,u3t,u6k];rfl)⟩
def PF:Nat->List Bool->List Int
 | _,[]=>[]
 | i,b::r=>bif b then (i:Int)::PF (i+1) r else PF (i+1) r
theorem z2y (seen:List Bool) (hn:seen.length<=1000000) :
  SpecH prog 259 [.hd 1000 0 seen.length] [(1000,.own 4 1 (seen.map bv))] (fun r H => ∃ es,r = .p (.sl es)∧H=[(1000,.own 4 1 (seen.map bv))]∧es=(PF 0 seen).map (.int .i64)):=by
 refine q7s (e:=3) (sz:=1) rfl ?_;refine sH x3l func259 rfl call259 ?_;conv=>whnf
 repeat' (refine iM fun _=>?_;conv=>whnf)
 refine LoopK.inv QX (fun i:Nat×List Int=>⟨[(3,.hd 0 0 i.2.length),(6,.hd 1000 0 seen.length),(7,.p (.int .i64 seen.length)),(8,.p (.int .i64 i.1))],[(0,.own 3 1 (i.2.map (.int .i64))),(1000,.own 4 1 (seen.map bv))]⟩)
  (fun i=>i.1<=seen.length∧i.2.length<=i.1∧i.2++PF i.1 (seen.drop i.1)=PF 0 seen) (fun i=>seen.length-i.1) (0,[])
  (Le.mk [(0,.own 3 1 [])] (by simp [Chunk.new0];rfl) (by simp) (by simp) (.cons (.nil u3g) (.cons (.refl _) (.cons (.refl _) (.cons (.refl _) .nil)))) (.new u3g (.cons rfl (.refl _) .nil)))
  ⟨u3l _,u4j _,rfl⟩ ?_
 rintro ⟨m,acc⟩ ⟨h2,h3,h4⟩;simp only at h2 h3 h4 ⊢;rcases u3r m seen.length with hm|hm;rotate_left 1
 ·rw [u4z hm,PF,u4e] at h4;subst h4;conv=>whnf
  repeat' (apply bD<;>intro _<;>first|omega|conv=>whnf)
  exact ⟨_,u4v _,(PF 0 seen).map (.int .i64),by simp,rfl,rfl⟩
 rw [u4n hm,PF] at h4;cases hsb:seen[m] with
 | true =>
   rw [hsb,u4y] at h4;have e2:(seen.map bv)[m]? = some .tt:=by simp [hm,hsb,bv]
   conv=>whnf
   repeat' (first|((first|refine u3d rfl ?_|refine aD ?_|refine bP ?_|refine wI ?_|refine u5q m rfl hm ?_|refine u5y m 0 .tt (by omega) e2 ?_|refine ZZ (by simp) (by simp;omega) ?_);conv=>whnf)|(apply bD<;>intro _<;>first|omega|conv=>whnf))
   exact ⟨(m+1,acc++[(m:Int)]),⟨by simp only;omega,by simp;omega,by simpa using h4⟩,by simp only;omega,Le.of_eq (by simp only [u3f,u3t];rfl)⟩
 | false =>
   rw [hsb,u4h] at h4;have e2:(seen.map bv)[m]? = some .ff:=by simp [hm,hsb,bv]
   conv=>whnf
   repeat' (first|((first|refine u3d rfl ?_|refine wI ?_|refine u5q m rfl hm ?_|refine u5y m 0 .ff (by omega) e2 ?_);conv=>whnf)|(apply bD<;>intro _<;>first|omega|conv=>whnf))
   exact ⟨(m+1,acc),⟨by simp only;omega,by simp only;omega,h4⟩,by simp only;omega,Le.of_eq rfl⟩
theorem x1c (g:List (List Int)×List (List Int)) (a:Int):SpecP prog 257 [FT g,.int .i64 a] (fun r=>r = .bool (WP g.1.length a)):=by
 refine sB FY func257 rfl call257 ?_;conv=>whnf
 repeat' (first|(refine iM fun _=>?_;conv=>whnf)|(apply bD<;>intro _<;>first|omega|conv=>whnf))
 all_goals have hl:((avI g.1).map AV.sl).length=g.1.length:=by simp [avI]
 all_goals first
  | exact RetK.bool (by unfold WP;simp [*];done)
  | exact RetK.ff (by unfold WP;simp;omega)
 all_goals trace_state
def MQ (n:Nat) (l:List Int):List Bool×List Int:=l.foldl (fun st a=>bif WP n a then HH st a else st) (List.replicate n false,[])
def WD (rows:List (List Int)) (l:List Int):List Bool:=(ZT rows (rows.length+1) 0 (MQ rows.length l)).1
theorem q2h (n:Nat):wkInv n (List.replicate n false,[]):=⟨by simp,by simp [List.count_replicate],by simp⟩
theorem MW {n:Nat} {rows:List (List Int)} (hr:XT n rows) : ∀ (k i:Nat) {st:List Bool×List Int},wkInv n st->wkInv n (ZT rows k i st)
 | 0,_,_,h=>h
 | k+1,i,st,h=>by
   rw [ZT];split
   ·rename_i a ha;have hx:=h.2.2 a (u4d ha);refine MW hr k (i+1) (w4y h ?_);have hlt:a.toNat<rows.length:=by rw [hr.1];omega
    rw [u3m,u3h hlt];exact hr.2 _ (u3i hlt)
   ·exact h
theorem ZN {n:Nat} {a:Int} (h:WP n a=true):0<=a∧a<n:=by
 unfold WP at h;simpa using h
theorem q6f (n:Nat) (hn:n<=5000) (g:List (List Int)×List (List Int)) (hg:XT n g.1) (l:List Int) (hlen:l.length<=1000000):SpecP prog 205 [FT g,QR l] (fun r=>r=QR (PF 0 (WD g.1 l))):=by
 refine sB q0b func205 rfl call205 ?_;conv=>whnf
 have hl:((avI g.1).map AV.sl).length=n:=by simp [avI,hg.1]
 repeat' ((first|(refine iM fun _=>?_)|refine aR ?_|refine MkK.mk n (by rw [hl]) (by show 1*n<=140737488355328;omega) (by unfold maxLen;omega) ?_);conv=>whnf)
 have hll:(l.map (AV.int .i64)).length=l.length:=u3k _;refine LoopK.inv QX (fun x:Nat×List Bool×List Int=>⟨[(0,.p (FT g)),(5,.hd 0 0 n),(6,.hd 1 0 x.2.2.length),(17,.p (QR l)),(18,.p (.int .i64 (l.map (AV.int .i64)).length)),(19,.p (.int .i64 x.1))],[(0,.own 4 1 (x.2.1.map bv)),(1,.own 3 1 (x.2.2.map (.int .i64)))]⟩)
  (fun x=>x.1<=l.length∧wkInv n x.2∧(l.drop x.1).foldl (fun st a=>bif WP n a then HH st a else st) x.2=MQ n l) (fun x=>l.length-x.1) (0,List.replicate n false,[])
  (Le.mk [(1,.own 3 1 [])] (by simp [Chunk.new0];rfl) (by simp) (by simp) (.cons (.refl _) (.cons (.refl _) (.cons (.nil u3g) (.cons (.refl _) (.cons (.refl _) (.cons (.refl _) .nil)))))) (.cons rfl (.of_eq (by rw [u6t];rfl)) (.new u3g .nil)))
  ⟨u3l _,q2h n,rfl⟩ ?_
 rintro ⟨m,seen,todo⟩ ⟨h2,h3,h4⟩;simp only at h2 h3 h4 ⊢;have hsl:seen.length=n:=h3.1;have htl:todo.length<=n:=MY h3;rcases u3r m l.length with hm|hm;rotate_left 1
 ·rw [u4z hm,List.foldl_nil] at h4;conv=>whnf
  repeat' (first|(apply bD<;>intro _<;>first|omega|conv=>whnf)|(refine CallK.heap [(1000,0),(2000,1)] 0 (by repeat' (first|exact u4s|refine u4w ?_ ?_|exact u4v _|exact u4p Sub.nils|exact u4p (Sub.tt rfl)|exact u4p (Sub.ff rfl)|exact u4p (Sub.int (by omega)))) (by refine u4x (j:=0) rfl rfl ?_ ?_;exact CSub.refl _;refine u4x (j:=1) rfl rfl ?_ ?_;exact CSub.refl _;exact u4c) (x5k n hn g.1 hg (seen,todo) h3) rfl rfl ?_;rintro l' H' ⟨rfl,rfl⟩;conv=>whnf))
  have hwl:(ZT g.1 (n+1) 0 (seen,todo)).1.length=n:=(MW hg _ _ h3).1;refine CallK.heap [(1000,0)] 0 (u4w (u8s (by rw [hwl];rfl)) u4s) (by refine u4x (j:=0) rfl rfl ?_ ?_;exact CSub.refl _;exact u4c) (z2y (ZT g.1 (n+1) 0 (seen,todo)).1 (by omega)) rfl rfl ?_;rintro l' H' ⟨es,rfl,rfl,rfl⟩;conv=>whnf
  skip
  exact RetK.p (by unfold QR WD;rw [hg.1,<- h4])
 rw [u4n hm,u6e] at h4;have hhas:SpecP prog 257 [FT g,.int .i64 l[m]] (fun r=>r = .bool (WP n l[m])):=by
  have:=x1c g l[m]
  rwa [hg.1] at this
 cases hsb:seen.getD l[m].toNat false with
 | true =>
   have e1:(bif WP n l[m] then HH (seen,todo) l[m] else (seen,todo))=(seen,todo):=by unfold HH;simp only [hsb,u4y];cases WP n l[m]<;>rfl
   have e2:WP n l[m]=true->(seen.map bv)[l[m].toNat]? = some .tt:=fun h=>by
    have hb:=ZN h;have hlt:l[m].toNat<seen.length:=by omega
    have:seen[l[m].toNat]=true:=by simpa [hlt] using hsb
    simp [hlt,this,bv]
   rw [e1] at h4;conv=>whnf
   repeat' (first|((first|refine u3d rfl ?_|(refine iA fun _=>?_)|refine wI ?_|refine cP hhas ?_|refine u5q l[m].toNat (by have:=ZN (by assumption);omega) (by have:=ZN (by assumption);omega) ?_|refine u5y l[m].toNat 0 .tt (by omega) (e2 (by assumption)) ?_);conv=>whnf)|(apply bD<;>intro _<;>first|omega|conv=>whnf)|(apply bB<;>intro _<;>conv=>whnf))
   all_goals exact ⟨(m+1,seen,todo),⟨by simp only;omega,h3,h4⟩,by simp only;omega,Le.of_eq rfl⟩
 | false =>
   have e2:WP n l[m]=true->(seen.map bv)[l[m].toNat]? = some .ff:=fun h=>by
    have hb:=ZN h;have hlt:l[m].toNat<seen.length:=by omega
    have:seen[l[m].toNat]=false:=by simpa [hlt] using hsb
    simp [hlt,this,bv]
   conv=>whnf
   repeat' (first|((first|refine u3d rfl ?_|refine aD ?_|refine bP ?_|(refine iA fun _=>?_)|refine wI ?_|refine cP hhas ?_|refine u5q l[m].toNat (by have:=ZN (by assumption);omega) (by have:=ZN (by assumption);omega) ?_|refine u5y l[m].toNat 0 .ff (by omega) (e2 (by assumption)) ?_|refine u6o l[m].toNat 0 .ff .tt (by omega) (e2 (by assumption)) (u4j 1) rfl ?_|refine ZZ (by simp) (by simp;omega) ?_);conv=>whnf)|(apply bD<;>intro _<;>first|omega|conv=>whnf)|(apply bB<;>intro _<;>conv=>whnf))
   ·have hh:WP n l[m]=true:=by assumption
    have e1:(bif WP n l[m] then HH (seen,todo) l[m] else (seen,todo))=(seen.set l[m].toNat true,todo++[l[m]]):=by unfold HH;simp only [hsb,hh,u4y,u4h]
    have h8:=q4b h3 (ZN hh);rw [e1] at h4;have e3:HH (seen,todo) l[m]=(seen.set l[m].toNat true,todo++[l[m]]):=by unfold HH;simp only [hsb,u4h]
    rw [e3] at h8;exact ⟨(m+1,seen.set l[m].toNat true,todo++[l[m]]),⟨by simp only;omega,h8,h4⟩,by simp only;omega,Le.of_eq (by simp only [u3f,u3t,u6k];rfl)⟩
   ·have hh:WP n l[m]=false:=by assumption
    have e1:(bif WP n l[m] then HH (seen,todo) l[m] else (seen,todo))=(seen,todo):=by rw [hh];rfl
    rw [e1] at h4;exact ⟨(m+1,seen,todo),⟨by simp only;omega,h3,h4⟩,by simp only;omega,Le.of_eq rfl⟩
theorem x9e (w:Way) (f:Pr) (n:Nat) (hw:w.n=n) (hj:w.p.procs[w.j]? = some f) (hc:cntP w.p.procs<=1000) (hn:n<=5000) (l:List Step) (hlen:l.length<=1000000):SpecP prog 204 [.ip w.cells,QL l] (fun r=>r=FT (XJ n (l.map (ixP w.p w.j f w.n)))):=by
 refine sB PM func204 rfl call204 ?_;conv=>whnf
 repeat' ((first|refine dA ?_|(refine CallK.pure (BP w f hj hc (by omega) l hlen) (.cons (Sub.refl _) (.cons (Sub.refl _) .nil)) ?_;rintro _ rfl)|(refine CallK.pure (z2u n hn (l.map (ixP w.p w.j f w.n)) (by rw [u3k];exact hlen)) (.cons (Sub.int hw) (.cons (Sub.refl _) .nil)) ?_;rintro _ rfl));conv=>whnf)
 exact RetK.p rfl
theorem x9i (p:Pg) (j:Nat) (f:Pr) (n:Nat) (real:AV) (lv:List AV) (hj:p.procs[j]? = some f) (hc:cntP p.procs<=1000) (hn:n<=5000) (l:List Step) (hlen:l.length<=1000000) :
  SpecH prog 204 [.ptr 1000 0,.p (QL l)] (v1p p j n real lv) (fun r H=>r = .p (FT (XJ n (l.map (ixP p j f n))))∧H=v1p p j n real lv):=by
 refine sH PM func204 rfl call204 ?_;conv=>whnf
 refine DrawK.of QX mixed (.cons 0 false (.cons 1 false (.cons 2 false (.cons 4 false (.cons 5 false (.fork 3 (.cons 6 true (.cons 7 true (.cons 8 true .nil))) 6 (.cons 3 true (.cons 7 true (.cons 8 true .nil))))))))) (by kernel_rfl) ?_;conv=>whnf
 repeat' (first|(refine CallK.pure (z2u n hn (l.map (ixP p j f n)) (by rw [u3k];exact hlen)) (.cons (Sub.refl _) (.cons (Sub.refl _) .nil)) ?_;rintro _ rfl;conv=>whnf)|(refine u3d ?_ ?_<;>conv=>whnf)|(refine CallK.heap [(1000,1000),(2000,2000)] 0 (by repeat' (first|exact u4s|refine u4w ?_ ?_|exact u4v _|exact u4p Sub.nils|exact u4p (Sub.tt rfl)|exact u4p (Sub.ff rfl)|exact u4p (Sub.int (by omega)))) (by refine u4x (j:=1000) rfl rfl ?_ ?_;exact CSub.refl _;refine u4x (j:=2000) rfl rfl ?_ ?_;exact CSub.refl _;exact u4c) (x9s p j f n real lv hj hc (by omega) l hlen) rfl rfl ?_;rintro l' H' ⟨es,rfl,rfl,rfl⟩;conv=>whnf))
 all_goals exact ⟨_,u4v _,rfl,rfl⟩
theorem x6u {n:Nat} {N:List (List Int)} (h:XT n N) {a:Nat} {b:Int} (hb:0<=b∧b<n):XT n (x6q N a b):=by
 unfold x6q;refine ⟨by rw [u6i];exact h.1,fun r hr x hx => ?_⟩;rcases u8v hr with hr|rfl
 ·exact h.2 r hr x hx
 ·unfold q8k at hx;have hg : ∀ y∈N.getD a [],0<=y∧y<n:=fun y hy=>by
   rcases u3r a N.length with ha|ha
   ·rw [u3m,u3h ha] at hy;exact h.2 _ (u3i ha) y hy
   ·rw [u3m,u5d ha] at hy;cases hy
  rcases u3p.1 hx with hx|hx
  ·exact hg x (u9b hx)
  ·rcases u3c.1 hx with rfl|hx
   ·exact hb
   ·exact hg x (List.mem_of_mem_drop hx)
theorem v3w {n:Nat} {g:List (List Int)×List (List Int)} (h:XT n g.1∧XT n g.2) (e:Int×Int):XT n (z0x n g e).1∧XT n (z0x n g e).2:=by
 rw [x0c,x4d];cases hc:WP n e.1&&WP n e.2 && !(g.1.getD e.1.toNat []).contains e.2
 ·exact h
 ·simp only [u4u] at hc;exact ⟨x6u h.1 (ZN hc.1.2),x6u h.2 (ZN hc.1.1)⟩
theorem w8i {n:Nat} (l:List (Int×Int)) : ∀ {g:List (List Int)×List (List Int)},XT n g.1∧XT n g.2->XT n (l.foldl (z0x n) g).1∧XT n (l.foldl (z0x n) g).2:=by
 induction l with
 | nil=>intro g h;exact h
 | cons e r ih=>intro g h;exact ih (v3w h e)
theorem FA (n:Nat) (l:List (Int×Int)):XT n (XJ n l).1∧XT n (XJ n l).2:=by
 have h0:XT n (List.replicate n []):=⟨by simp,fun r hr=>by rw [u6b hr];simp⟩;exact w8i l ⟨h0,h0⟩
theorem Wr.eq {n m:Int} {K:Int->Prop} (h:n=m) (h1 : -9223372036854775808<=m) (h2:m<=9223372036854775807) (hK:K m):Wr .i64 n K:=by
 subst h;exact Wr.i64 h1 h2 hK
theorem q8x : ∀ (a:Step) (l:List Step),(XH a l).length<=l.length
 | _,[]=>u4j _
 | a,b::r=>by
   have:=q8x b r;rw [XH];cases ZO b a<;>simp<;>omega
theorem z2o (l:List Step):(WZ l).length<=l.length:=by
 unfold WZ;rw [<- q7z (l:=l)];cases KJ l with
 | nil=>exact u4j _
 | cons a r =>
   have:=q8x a r;simp [q1k];omega
theorem w4p (sh:Sheet) (f:Pr) (it:Item):(VV sh f it).length<=2:=by
 unfold VV;split<;>(try split)<;>(try split)<;>(try split)<;>(try split)<;>(try split)<;>simp
theorem q8u {α β:Type} {g:α->List β} (h : ∀ x,(g x).length<=2) : ∀ l:List α,(l.flatMap g).length<=2*l.length
 | []=>by simp
 | a::r=>by
   have:=q8u h r;have:=h a;rw [u5b,u3f,u4t];omega
theorem MX (p:Pg) (j:Nat) (f:Pr):(QG p j f).length<=1+2*cntL f.body:=by
 unfold QG;have:=q8u (g:=fun it=>(VV (sheetOf p) f it).map (Step.mk it.s.id · 1)) (fun it=>by rw [u3k];exact w4p _ _ _) (itL j 0 (-1) 0 (QN p.procs j) f.body);rw [WR] at this;rw [u4t];omega
theorem x8h : ∀ (i:Nat) (l:List Bool) (a:Int),a∈PF i l->(i:Int)<=a∧a<i+l.length
 | _,[],_,h=>by rw [PF] at h;cases h
 | i,b::r,a,h=>by
   rw [PF] at h;have key:a∈PF (i+1) r->(i:Int)<=a∧a<i+(b::r).length:=fun h=>by
    have:=x8h (i+1) r a h;simp only [u4t];omega
   cases b with
   | false=>exact key h
   | true =>
     rcases u3c.1 h with rfl|h
     ·simp only [u4t];omega
     ·exact key h
theorem w2g (n:Nat) (l:List Int):wkInv n (MQ n l):=by
 unfold MQ;have : ∀ (l:List Int) (st:List Bool×List Int),wkInv n st->wkInv n (l.foldl (fun st a=>bif WP n a then HH st a else st) st):=fun l=>by
  induction l with
  | nil=>intro st h;exact h
  | cons a r ih =>
    intro st h;refine ih _ ?_;show wkInv n (bif WP n a then HH st a else st);cases hb:WP n a with
    | true=>exact q4b h (ZN hb)
    | false=>exact h
 exact this l _ (q2h n)
theorem w2q {n:Nat} {rows:List (List Int)} (h:XT n rows) (l:List Int):(WD rows l).length=n:=by
 unfold WD;rw [h.1];exact (MW h _ _ (w2g n l)).1
def PQ (l:List Int) (b:List Bool):List Bool:=l.foldl (fun b a=>b.set a.toNat true) b
def QQ (p:Pg) (j:Nat) (f:Pr):Way :=
 let real:=WZ (QG p j f);let n:=cntL f.body+2
 ⟨p,j,n,real,PQ (PF 0 (WD (XJ n (real.map (ixP p j f n))).1 [0])) (List.replicate n false)⟩
theorem v5m (p:Pg) (j:Nat) (f:Pr) (hj:p.procs[j]? = some f) (hc:cntP p.procs<=1000) (hl : ∀ it∈itsOf p j f,it.s.kind=7->1<=it.loop∧it.loop<=(sheetOf p).l.length) (hok : ∀ s∈QG p j f,okSt s):SpecP prog 128 [.ip (sheetOf p).cells,.int .i64 j] (fun r=>r = .ip (QQ p j f).cells):=by
 refine sB w2s func128 rfl call128 ?_;conv=>whnf
 obtain ⟨_,_,_,hlen,hsp⟩:=QJ p;obtain ⟨hlo,hhi,hle,_⟩:=hsp j f hj;repeat' ((first|refine dA ?_|refine u3d rfl ?_|refine aR ?_|(refine IdxK.at rfl (YZ hlo) rfl ?_)|(refine IdxK.at rfl (YZ hhi) rfl ?_)|refine cP (q9x p j f hj hc hl hok) ?_|refine Wr.eq (m:=cntL f.body) (by omega) (by omega) (by omega) ?_|refine Wr.eq (m:=(cntL f.body+2:Nat)) (by omega) (by omega) (by omega) ?_|refine MkK.mk (cntL f.body+2) rfl (by show 1*_<=140737488355328;omega) (by unfold maxLen;omega) ?_);conv=>whnf)
 have hrl:(WZ (QG p j f)).length<=1000000:=by have:=z2o (QG p j f);have:=MX p j f;omega
 refine CallK.heap [(1000,0),(2000,1)] 0 (by repeat' (first|exact u4s|refine u4w ?_ ?_|exact u4v _|exact u4p Sub.nils|exact u4p (Sub.tt rfl)|exact u4p (Sub.ff rfl)|exact u4p (Sub.int (by omega)))) (u4x (j:=0) rfl rfl (CSub.of_eq (by rw [u5m];rfl)) (u4x (j:=1) rfl rfl (CSub.refl _) u4c)) (x9i p j f (cntL f.body+2) (QL (WZ (QG p j f))) (List.replicate (cntL f.body+2) .ff) hj hc (by omega) (WZ (QG p j f)) hrl) rfl rfl ?_;rintro l' H' ⟨rfl,rfl⟩;conv=>whnf
 obtain ⟨hgi,_⟩:=FA (cntL f.body+2) ((WZ (QG p j f)).map (ixP p j f (cntL f.body+2:Nat)));repeat' ((first|(refine iM fun _=>?_)|refine u3d rfl ?_|refine aD ?_|refine bP ?_|(refine CallK.pure (q6f (cntL f.body+2) (by omega) _ hgi [0] (by simp)) (.cons (Sub.refl _) (.cons (Sub.refl _) .nil)) ?_;rintro _ rfl));conv=>whnf)
 have hlm : ∀ a∈PF 0 (WD (XJ (cntL f.body+2) ((WZ (QG p j f)).map (ixP p j f (cntL f.body+2:Nat)))).1 [0]),0<=a∧a<(cntL f.body+2:Nat):=fun a ha=>by
  have:=x8h _ _ _ ha;rw [w2q hgi] at this;omega
 have hnw:QQ p j f=⟨p,j,(cntL f.body+2:Nat),WZ (QG p j f),PQ (PF 0 (WD (XJ (cntL f.body+2) ((WZ (QG p j f)).map (ixP p j f (cntL f.body+2:Nat)))).1 [0])) (List.replicate (cntL f.body+2) false)⟩:=rfl;rw [hnw];have hlb:((PF 0 (WD (XJ (cntL f.body+2) ((WZ (QG p j f)).map (ixP p j f (cntL f.body+2:Nat)))).1 [0])).map (AV.int .i64)).length<=9223372036854775807:=by assumption
 generalize PF 0 (WD (XJ (cntL f.body+2) ((WZ (QG p j f)).map (ixP p j f (cntL f.body+2:Nat)))).1 [0])=lst at hlm hlb ⊢;have hll:(lst.map (AV.int .i64)).length=lst.length:=u3k _;refine LoopK.inv QX (fun x:Nat×List Bool=>⟨[(5,.ptr 0 0),(46,.p (QR lst)),(47,.p (.int .i64 (lst.map (AV.int .i64)).length)),(48,.p (.int .i64 x.1))],[(0,.obj 137 [.p (.ip (sheetOf p).cells),.p (.int .i64 j),.p (.int .i64 (cntL f.body+2:Nat)),.p (QL (WZ (QG p j f))),.hd 1 0 (cntL f.body+2)]),(1,.own 4 1 (x.2.map bv))]⟩)
  (fun x=>x.1<=lst.length∧x.2.length=cntL f.body+2∧PQ (lst.drop x.1) x.2=PQ lst (List.replicate (cntL f.body+2) false)) (fun x=>lst.length-x.1) (0,List.replicate (cntL f.body+2) false)
  (Le.of_eq (by simp only [u6t,u5m];rfl)) ⟨u3l _,by simp,rfl⟩ ?_
 rintro ⟨m,b⟩ ⟨h2,h3,h4⟩;simp only at h2 h3 h4 ⊢;rcases u3r m lst.length with hm|hm;rotate_left 1
 ·rw [u4z hm] at h4;rw [<- h4];conv=>whnf
  repeat' (apply bD<;>intro _<;>first|omega|conv=>whnf)
  exact ⟨_,.ptr (cs:=[.ip (sheetOf p).cells,.int .i64 j,.int .i64 (cntL f.body+2:Nat),QL (WZ (QG p j f)),.sl (b.map bv)]) rfl rfl (fun i x c h5 h6=>by
   match i,h5,h6 with
   | 0,h5,h6=>cases h5;cases h6;exact .p (Sub.refl _)
   | 1,h5,h6=>cases h5;cases h6;exact .p (Sub.refl _)
   | 2,h5,h6=>cases h5;cases h6;exact .p (Sub.refl _)
   | 3,h5,h6=>cases h5;cases h6;exact .p (Sub.refl _)
   | 4,h5,h6=>cases h5;cases h6;exact .hd rfl (by rw [u3k,h3])),rfl⟩
 rw [u4n hm] at h4;have ha:=hlm _ (u3i hm);have hal:lst[m].toNat<b.length:=by omega
 have hbe:(b.map bv)[lst[m].toNat]? = some (bv b[lst[m].toNat]):=by simp [hal]
 conv=>whnf
 repeat' (first|((first|refine u3d rfl ?_|(refine iA fun _=>?_)|refine wI ?_|refine u5q lst[m].toNat (by omega) (by omega) ?_|refine u6o lst[m].toNat 0 (bv b[lst[m].toNat]) .tt (by omega) hbe (u4j 1) (by cases b[lst[m].toNat]<;>rfl) ?_);conv=>whnf)|(apply bD<;>intro _<;>first|omega|conv=>whnf))
 exact ⟨(m+1,b.set lst[m].toNat true),⟨by simp only;omega,by simp only [u6i];exact h3,h4⟩,by simp only;omega,Le.of_eq (by simp only [u6k];rfl)⟩
end Go.Ab
