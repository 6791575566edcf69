/- What a program that came in reads as: the data of the statements, as they lie in the memory that was there. Conditions: none. -/
import Derived.Deep.Slices
import Derived.Test.YtlhblcpmfnkjpaaGreatInoA7
set_option linter.unusedSimpArgs false
set_option linter.unusedVariables false
set_option maxRecDepth 100000
set_option maxHeartbeats 16000000
open List (all_cons any_cons drop_eq_nil_of_le length_append length_map length_singleton)
open Nat (ble zero_le)
namespace Go.Ab
open Go.Proofs Go.ChangeShapes
def VS (w:World):Mem:=fun b=>match w.heap[b]? with
 | some (.cells c _ _)=>some c
 | _=>none
theorem x0g (w:World):(VS w).lies w:=by
 intro b c h;unfold VS at h;split at h
 ·rename_i c' e fr hh;cases h;exact ⟨e,fr,hh⟩
 ·cases h
theorem z2s {w:World} {a:Addr} {v:Value} (h:w.cell? a=some v):a.spot=none ∧ ∃ cells,VS w a.block=some cells∧cells[a.off]? = some v:=by
 refine ⟨World.cell?_spot h,?_⟩;unfold World.cell? at h;split at h
 ·rename_i c e fr hh;split at h
  ·cases h
  ·exact ⟨c,by unfold VS;rw [hh],h⟩
 ·cases h
def RepCs (σ:Mem) (avs:List AV) (cs:List Value):Prop:=cs.length=avs.length ∧ ∀ (j:Nat) (c:AV),avs[j]? = some c -> ∃ u,cs[j]? = some u∧Rep σ c u
theorem RepCs.nil (σ:Mem):RepCs σ [] []:=⟨rfl,by simp⟩
theorem RepCs.one {σ:Mem} {a:AV} {v:Value} (h:Rep σ a v):RepCs σ [a] [v]:=⟨rfl,fun j c hj=>by
 cases j with
 | zero=>cases hj;exact ⟨v,rfl,h⟩
 | succ j=>simp at hj⟩
theorem RepCs.append {σ:Mem} {xs ys:List AV} {cs ds:List Value} (h:RepCs σ xs cs) (h':RepCs σ ys ds):RepCs σ (xs++ys) (cs++ds):=by
 refine ⟨by simp [h.1,h'.1],fun j c hj => ?_⟩;rw [List.getElem?_append] at hj ⊢;rw [h.1];split at hj
 ·rw [if_pos (by assumption)];exact h.2 j c hj
 ·rw [if_neg (by assumption)];exact h'.2 _ c hj
theorem RepCs.of_agg {σ:Mem} {avs:List AV} {vs:Array Value} (h:RepCs σ avs vs.toList):Rep σ (.agg avs) (.agg vs):=by
 refine .agg avs vs (fun j=>vs[j]?.getD undef) (by simpa using h.1) (fun j c hj => ?_) (fun j c hj => ?_)
 ·obtain ⟨u,h1,_⟩:=h.2 j c hj;rw [Array.getElem?_toList] at h1;simp [h1]
 ·obtain ⟨u,h1,h2⟩:=h.2 j c hj;rw [Array.getElem?_toList] at h1;simpa [h1] using h2
section
variable {H:Type} {enc:TypeId×Value->H} {P:Program} {w:World} {base:Nat} {spare:Nat->Bool} {held:Bool}
theorem q5j {t:TypeId} {n:Nat} {cs:List Value} {x:DataW H×List MemPlace} (ht:P.underlying t=some .string) (h:DataW.trod enc P w base spare held n t cs=some x) : ∃ s:Str,RepCs (VS w) [.str s] cs:=by
 obtain ⟨s,rfl,_,h1⟩:=DataW.trod_string ht h;exact ⟨s.data.toList,.one (Rep.str (σ:=VS w) s.data.toList (by simpa using h1))⟩
theorem z1w {t:TypeId} {n:Nat} {cs:List Value} {x:DataW H×List MemPlace} (ht:P.underlying t=some (.int .i64)) (h:DataW.trod enc P w base spare held n t cs=some x) : ∃ i:Int,RepCs (VS w) [.int .i64 i] cs:=by
 obtain ⟨i,rfl,_⟩:=DataW.trod_int ht h;exact ⟨i,.one (.int _ _)⟩
theorem z8n {t:TypeId} {n:Nat} {cs:List Value} {x:DataW H×List MemPlace} (ht:P.underlying t=some .bool) (h:DataW.trod enc P w base spare held n t cs=some x) : ∃ b:Bool,RepCs (VS w) [.bool b] cs:=by
 obtain ⟨b,rfl,_⟩:=DataW.trod_bool ht h;exact ⟨b,.one (.bool b)⟩
theorem RepCs.step {σ:Mem} {xs ys:List AV} {cs:List Value} {o k:Nat} (h:RepCs σ xs ((cs.drop o).take k)) (h':RepCs σ ys (cs.drop (o+k))):RepCs σ (xs++ys) (cs.drop o):=by
 have:=h.append h'
 rwa [<- List.drop_drop,List.take_append_drop] at this
theorem RepCs.fin {σ:Mem} {cs:List Value} {o:Nat} (h:cs.length=o):RepCs σ [] (cs.drop o):=by
 rw [drop_eq_nil_of_le (by omega)];exact .nil σ
theorem q2c {α:Type} [Inhabited α] (F:α->AV) (hspare : ∀ b,spare b=true) {t e:TypeId} {n:Nat} {cs:List Value} {x:DataW H×List MemPlace} (ht:P.underlying t=some (.slice e)) {sz:Nat} (hsz:P.cellsOf e=sz) (hF : ∀ a,(F a).cells.length=sz) (hpos:0<sz)
  (hd : ∀ m cs' y,m<n->DataW.trod enc P w base spare held m e cs'=some y -> ∃ a,RepCs (VS w) (F a).cells cs') (h:DataW.trod enc P w base spare held n t cs=some x) : ∃ l:List α,RepCs (VS w) [.sl (l.map F)] cs:=by
 rcases DataW.trod_slice ht h with ⟨rfl,_⟩|⟨a,len,cap,elems,rest,m,hn,rfl,_,hb,hl,hm,hlen,hel,hsp,_⟩
 ·exact ⟨[],.one .nilsl⟩
 subst hsz;have key : ∀ i,i<len -> ∃ A,∀ (j:Nat) (c:AV),(F A).cells[j]? = some c -> ∃ u,w.cell? (a.add (i*P.cellsOf e+j))=some u∧Rep (VS w) c u:=by
  intro i hi;have h1:=hel i hi;rw [List.getElem?_eq_getElem (by omega)] at h1;obtain ⟨cs',h2,h3⟩:=Option.bind_eq_some_iff.1 h1;obtain ⟨A,h4,h5⟩:=hd m cs' _ (by omega) h3;obtain ⟨_,h6,h7⟩:=World.cells?_some h2;refine ⟨A,fun j c hj => ?_⟩;obtain ⟨u,h8,h9⟩:=h5 j c hj;have hj':j<P.cellsOf e:=by rw [<- hF A];exact (List.getElem?_eq_some_iff.1 hj).1
  have:=h7 j hj';rw [Deep.add_add] at this;exact ⟨u,this.trans h8,h9⟩
 have spot : ∀ k u,w.cell? (a.add k)=some u->(k=0->a.spot=none) ∧ ∃ cells,VS w a.block=some cells∧cells[a.off+k]? = some u:=fun k u hk=>by
  have h1:=z2s hk;unfold Addr.add at h1;split at h1
  ·rename_i h0;subst h0;exact ⟨fun _=>h1.1,h1.2⟩
  ·exact ⟨fun h=>absurd h (by assumption),h1.2⟩
 obtain ⟨b,off,sp⟩:=a;by_cases hcap:cap=0
 ·subst hcap;obtain rfl:len=0:=by omega
  exact ⟨[],.one (.slz _)⟩
 have hmem:sp=none ∧ ∃ cells,VS w b=some cells:=by
  by_cases hc0:len=0
  ·subst hc0;have h1:=(hsp (hspare _)).1;have h2:=(hsp (hspare _)).2 0 (by omega);rw [List.getElem?_eq_getElem (by omega)] at h2;obtain ⟨cs',h3,_⟩:=Option.bind_eq_some_iff.1 h2;obtain ⟨_,h4,h5⟩:=World.cells?_some h3;have h6:=h5 0 hpos;rw [Deep.add_add,List.getElem?_eq_getElem (by omega)] at h6;obtain ⟨h7,cells,h8,_⟩:=spot _ _ h6;exact ⟨h7 (by omega),cells,h8⟩
  ·obtain ⟨A,hA⟩:=key 0 (by omega);have hj:0<(F A).cells.length:=by rw [hF A];exact hpos
   obtain ⟨u,h1,_⟩:=hA 0 _ (List.getElem?_eq_getElem hj);obtain ⟨h7,cells,h8,_⟩:=spot _ _ h1;exact ⟨h7 (by omega),cells,h8⟩
 obtain ⟨rfl,cells,hcells⟩:=hmem;obtain ⟨f,hf⟩:=Deep.choose_lt key;refine ⟨(List.range len).map f,.one ?_⟩;have hll:(((List.range len).map f).map F).length=len:=by simp
 have hget : ∀ (i:Nat) (x:AV),(((List.range len).map f).map F)[i]? = some x->i<len∧x=F (f i):=fun i x hi=>by
  have hlt:i<len:=by rw [<- hll];exact (List.getElem?_eq_some_iff.1 hi).1
  simp [hlt] at hi;exact ⟨hlt,hi.symm⟩
 have hcell : ∀ (i:Nat) (x:AV) (j:Nat) (c:AV),(((List.range len).map f).map F)[i]? = some x->x.cells[j]? = some c -> ∃ u,cells[off+i*P.cellsOf e+j]? = some u∧Rep (VS w) c u:=fun i x j c hi hj=>by
  obtain ⟨hlt,rfl⟩:=hget i x hi;obtain ⟨u,h1,h2⟩:=hf i hlt j c hj;obtain ⟨_,cells',h3,h4⟩:=spot _ _ h1;rw [hcells] at h3;cases h3;exact ⟨u,by rw [Nat.add_assoc];exact h4,h2⟩
 have:=Rep.sl (σ:=VS w) (((List.range len).map f).map F) b off cap (P.cellsOf e) cells (fun i j=>(cells[off+i*P.cellsOf e+j]?).getD undef) hcells (by rw [hll];exact hl) hm (fun i x hi=>by rw [(hget i x hi).2,hF])
  (fun i x j c hi hj=>by
    obtain ⟨u,h1,_⟩:=hcell i x j c hi hj;rw [h1];rfl) (fun i x j c hi hj=>by
    obtain ⟨u,h1,h2⟩:=hcell i x j c hi hj;rw [h1];exact h2)
 rw [hll] at this;exact this
end
section
variable {H:Type} {enc:TypeId×Value->H} {w:World}
def z2c (i:TyI):Array Field:=match i.desc with
 | .struct fs=>fs
 | _ => #[]
instance:Inhabited X:=⟨.mk 0 0 [] []⟩
instance:Inhabited Arg:=⟨⟨false,[],default⟩⟩
instance:Inhabited S:=⟨.mk 0 0 [] [] [] default false [] [] []⟩
instance:Inhabited Param:=⟨⟨[],false⟩⟩
instance:Inhabited Pr:=⟨⟨[],[],[],[],[]⟩⟩
noncomputable abbrev Rd (H:Type) (enc:TypeId×Value->H) (w:World) (n:Nat) (t:TypeId) (cs:List Value):Option (DataW H×List MemPlace):=DataW.trod enc Tryz.prog w 0 (fun _=>true) true n t cs
theorem MX {n:Nat} {t:TypeId} {cs:List Value} {x:DataW H×List MemPlace} (ht:Tryz.prog.underlying t=some (.slice 9)) (h:Rd H enc w n t cs=some x) : ∃ l:List Str,RepCs (VS w) [eStrs l] cs :=
 q2c AV.str (fun _=>rfl) ht (by kernel_rfl) (fun _=>rfl) Nat.one_pos (fun m cs' y _ hy=>q5j (by kernel_rfl) hy) h
theorem w4u : ∀ (n:Nat) (cs:List Value) (x:DataW H×List MemPlace),Rd H enc w n 36 cs=some x -> ∃ e:X,RepCs (VS w) e.cells cs:=by
 intro n;induction n using Nat.strongRecOn with
 | _ n ih =>
   intro cs x h;obtain ⟨xs,m,rfl,_,hlen,hxl,hf⟩:=DataW.trod_struct (fs:=z2c v1m) (by kernel_rfl) h;replace hlen:cs.length=4:=hlen.trans (by kernel_rfl);have fld:=fun (i:Nat) (f:Field) (hi:(z2c v1m)[i]? = some f)=>(hf i f hi).trans (List.getElem?_eq_getElem (by rw [hxl];exact (Array.getElem?_eq_some_iff.1 hi).1));obtain ⟨op,h0⟩:=z1w (by kernel_rfl) (fld 0 _ rfl);obtain ⟨nn,h1⟩:=z1w (by kernel_rfl) (fld 1 _ rfl);obtain ⟨nm,h2⟩:=q5j (by kernel_rfl) (fld 2 _ rfl);obtain ⟨ks,h3⟩:=q2c (fun x:X => .agg x.cells) (fun _=>rfl) (e:=36) (sz:=4) (by kernel_rfl) (by kernel_rfl) (fun _=>rfl) (by decide) (fun m' cs' y hm hy=>ih m' (by omega) cs' y hy) (fld 3 _ rfl);refine ⟨.mk op nn nm ks,?_⟩;have:=RepCs.step (o:=0) (k:=1) h0 (RepCs.step (o:=1) (k:=1) h1 (RepCs.step (o:=2) (k:=1) h2 (RepCs.step (o:=3) (k:=1) h3 (RepCs.fin hlen))));unfold X.cells;rw [X.avs_eq];exact this
theorem w2s (n:Nat) (cs:List Value) (x:DataW H×List MemPlace) (h:Rd H enc w n 74 cs=some x) : ∃ e:Arg,RepCs (VS w) e.cells cs:=by
 obtain ⟨xs,m,rfl,_,hlen,hxl,hf⟩:=DataW.trod_struct (fs:=z2c w9b) (by kernel_rfl) h;replace hlen:cs.length=6:=hlen.trans (by kernel_rfl);have fld:=fun (i:Nat) (f:Field) (hi:(z2c w9b)[i]? = some f)=>(hf i f hi).trans (List.getElem?_eq_getElem (by rw [hxl];exact (Array.getElem?_eq_some_iff.1 hi).1));obtain ⟨rf,h0⟩:=z8n (by kernel_rfl) (fld 0 _ rfl);obtain ⟨nm,h1⟩:=q5j (by kernel_rfl) (fld 1 _ rfl);obtain ⟨e,h2⟩:=w4u _ _ _ (fld 2 _ rfl);refine ⟨⟨rf,nm,e⟩,?_⟩;have:=RepCs.step (o:=0) (k:=1) h0 (RepCs.step (o:=1) (k:=1) h1 (RepCs.step (o:=2) (k:=4) h2 (RepCs.fin hlen)));exact this
theorem w6l : ∀ (n:Nat) (cs:List Value) (x:DataW H×List MemPlace),Rd H enc w n 40 cs=some x -> ∃ e:S,RepCs (VS w) e.cells cs:=by
 intro n;induction n using Nat.strongRecOn with
 | _ n ih =>
   intro cs x h;obtain ⟨xs,m,rfl,_,hlen,hxl,hf⟩:=DataW.trod_struct (fs:=z2c v1y) (by kernel_rfl) h;replace hlen:cs.length=13:=hlen.trans (by kernel_rfl);have fld:=fun (i:Nat) (f:Field) (hi:(z2c v1y)[i]? = some f)=>(hf i f hi).trans (List.getElem?_eq_getElem (by rw [hxl];exact (Array.getElem?_eq_some_iff.1 hi).1));obtain ⟨id,h0⟩:=z1w (by kernel_rfl) (fld 0 _ rfl);obtain ⟨kd,h1⟩:=z1w (by kernel_rfl) (fld 1 _ rfl);obtain ⟨lb,h2⟩:=MX (by kernel_rfl) (fld 2 _ rfl);obtain ⟨nm,h3⟩:=q5j (by kernel_rfl) (fld 3 _ rfl);obtain ⟨pc,h4⟩:=q5j (by kernel_rfl) (fld 4 _ rfl);obtain ⟨e,h5⟩:=w4u _ _ _ (fld 5 _ rfl);obtain ⟨hs,h6⟩:=z8n (by kernel_rfl) (fld 6 _ rfl);obtain ⟨ar,h7⟩:=q2c (fun x:Arg => .agg x.cells) (fun _=>rfl) (e:=74) (sz:=6) (by kernel_rfl) (by kernel_rfl) (fun _=>rfl) (by decide) (fun m' cs' y hm hy=>w2s m' cs' y hy) (fld 7 _ rfl);obtain ⟨th,h8⟩:=q2c (fun x:S => .agg x.cells) (fun _=>rfl) (e:=40) (sz:=13) (by kernel_rfl) (by kernel_rfl) (fun _=>rfl) (by decide) (fun m' cs' y hm hy=>ih m' (by omega) cs' y hy) (fld 8 _ rfl);obtain ⟨el,h9⟩:=q2c (fun x:S => .agg x.cells) (fun _=>rfl) (e:=40) (sz:=13) (by kernel_rfl) (by kernel_rfl) (fun _=>rfl) (by decide) (fun m' cs' y hm hy=>ih m' (by omega) cs' y hy) (fld 9 _ rfl);refine ⟨.mk id kd lb nm pc e hs ar th el,?_⟩;have:=RepCs.step (o:=0) (k:=1) h0 (RepCs.step (o:=1) (k:=1) h1 (RepCs.step (o:=2) (k:=1) h2 (RepCs.step (o:=3) (k:=1) h3 (RepCs.step (o:=4) (k:=1) h4 (RepCs.step (o:=5) (k:=4) h5 (RepCs.step (o:=9) (k:=1) h6 (RepCs.step (o:=10) (k:=1) h7 (RepCs.step (o:=11) (k:=1) h8 (RepCs.step (o:=12) (k:=1) h9 (RepCs.fin hlen))))))))));unfold S.cells;rw [S.avs_eq,S.avs_eq];exact this
theorem z2i (n:Nat) (cs:List Value) (x:DataW H×List MemPlace) (h:Rd H enc w n 72 cs=some x) : ∃ e:Param,RepCs (VS w) e.cells cs:=by
 obtain ⟨xs,m,rfl,_,hlen,hxl,hf⟩:=DataW.trod_struct (fs:=z2c ty72) (by kernel_rfl) h;replace hlen:cs.length=2:=hlen.trans (by kernel_rfl);have fld:=fun (i:Nat) (f:Field) (hi:(z2c ty72)[i]? = some f)=>(hf i f hi).trans (List.getElem?_eq_getElem (by rw [hxl];exact (Array.getElem?_eq_some_iff.1 hi).1));obtain ⟨nm,h0⟩:=q5j (by kernel_rfl) (fld 0 _ rfl);obtain ⟨rf,h1⟩:=z8n (by kernel_rfl) (fld 1 _ rfl);refine ⟨⟨nm,rf⟩,?_⟩;have:=RepCs.step (o:=0) (k:=1) h0 (RepCs.step (o:=1) (k:=1) h1 (RepCs.fin hlen));exact this
theorem w4i (n:Nat) (cs:List Value) (x:DataW H×List MemPlace) (h:Rd H enc w n 68 cs=some x) : ∃ e:Pr,RepCs (VS w) e.cells cs:=by
 obtain ⟨xs,m,rfl,_,hlen,hxl,hf⟩:=DataW.trod_struct (fs:=z2c v0b) (by kernel_rfl) h;replace hlen:cs.length=5:=hlen.trans (by kernel_rfl);have fld:=fun (i:Nat) (f:Field) (hi:(z2c v0b)[i]? = some f)=>(hf i f hi).trans (List.getElem?_eq_getElem (by rw [hxl];exact (Array.getElem?_eq_some_iff.1 hi).1));obtain ⟨nm,h0⟩:=q5j (by kernel_rfl) (fld 0 _ rfl);obtain ⟨pm,h1⟩:=q2c (fun x:Param => .agg x.cells) (fun _=>rfl) (e:=72) (sz:=2) (by kernel_rfl) (by kernel_rfl) (fun _=>rfl) (by decide) (fun m' cs' y hm hy=>z2i m' cs' y hy) (fld 1 _ rfl);obtain ⟨vs,h2⟩:=MX (by kernel_rfl) (fld 2 _ rfl);obtain ⟨bd,h3⟩:=q2c (fun x:S => .agg x.cells) (fun _=>rfl) (e:=40) (sz:=13) (by kernel_rfl) (by kernel_rfl) (fun _=>rfl) (by decide) (fun m' cs' y hm hy=>w6l m' cs' y hy) (fld 3 _ rfl);obtain ⟨fn,h4⟩:=MX (by kernel_rfl) (fld 4 _ rfl);refine ⟨⟨nm,pm,vs,bd,fn⟩,?_⟩;have:=RepCs.step (o:=0) (k:=1) h0 (RepCs.step (o:=1) (k:=1) h1 (RepCs.step (o:=2) (k:=1) h2 (RepCs.step (o:=3) (k:=1) h3 (RepCs.step (o:=4) (k:=1) h4 (RepCs.fin hlen)))));unfold Pr.cells eSs;rw [S.avs_eq];exact this
theorem w5x (n:Nat) (cs:List Value) (x:DataW H×List MemPlace) (h:Rd H enc w n 25 cs=some x) : ∃ e:Pg,RepCs (VS w) e.cells cs:=by
 obtain ⟨xs,m,rfl,_,hlen,hxl,hf⟩:=DataW.trod_struct (fs:=z2c w9w) (by kernel_rfl) h;replace hlen:cs.length=2:=hlen.trans (by kernel_rfl);have fld:=fun (i:Nat) (f:Field) (hi:(z2c w9w)[i]? = some f)=>(hf i f hi).trans (List.getElem?_eq_getElem (by rw [hxl];exact (Array.getElem?_eq_some_iff.1 hi).1));obtain ⟨gl,h0⟩:=MX (by kernel_rfl) (fld 0 _ rfl);obtain ⟨ps,h1⟩:=q2c (fun x:Pr => .agg x.cells) (fun _=>rfl) (e:=68) (sz:=5) (by kernel_rfl) (by kernel_rfl) (fun _=>rfl) (by decide) (fun m' cs' y hm hy=>w4i m' cs' y hy) (fld 1 _ rfl);refine ⟨⟨gl,ps⟩,?_⟩;have:=RepCs.step (o:=0) (k:=1) h0 (RepCs.step (o:=1) (k:=1) h1 (RepCs.fin hlen));exact this

theorem z6n {v:Value} {base:Nat} {d:DataW H} {ps:List MemPlace} (hv:Value.okWide Tryz.prog w .any base 25 v) (h:DataW.Trod enc Tryz.prog w 0 (fun _=>true) true 25 v d ps) : ∃ p:Pg,Rep (VS w) (.agg p.cells) v:=by
 have hu:Tryz.prog.underlying 25=some (.struct (z2c w9w)):=by kernel_rfl
 unfold Value.okWide at hv;rw [hu] at hv;obtain ⟨cs,rfl,_,_⟩:=hv;obtain ⟨n,hn⟩:=h;obtain ⟨p,hp⟩:=w5x n _ _ hn;exact ⟨p,hp.of_agg⟩
end
theorem w8i {p:Prop} [Decidable p] {A B:Prop} (h:p->A) (h' : ¬p->B):Br (decide p) A B:=⟨fun e=>h (by simpa using e),fun e=>h' (by simpa using e)⟩
theorem w6r {p:Prop} [Decidable p] {A B:Prop} (h:p->A) (h' : ¬p->B):Br (!decide p) B A:=⟨fun e=>h' (by simpa using e),fun e=>h (by simpa using e)⟩
theorem Br.n {b:Bool} {A B:Prop} (h:b=true->B) (h':b=false->A):Br (!b) A B:=⟨fun e=>h' (by simpa using e),fun e=>h (by simpa using e)⟩
theorem ByteK.at {s:List UInt8} {k:Nat} {K:UInt8->Prop} (hk:k<s.length) (h:K s[k]):ByteK s k K:=⟨k,s[k],rfl,by simp,h⟩
theorem X.avs_len (l:List X):(X.avs l).length=l.length:=by rw [X.avs_eq];simp
theorem S.avs_len (l:List S):(S.avs l).length=l.length:=by rw [S.avs_eq];simp
theorem IdxK.map {α:Type} {f:α->AV} {l:List α} {sz k:Nat} {K:List AV->Prop} (hk:k<(l.map f).length) (hs : ∀ x,(f x).cells.length=sz) (h:K (f (l[k]'(by simpa using hk))).cells):IdxK (l.map f) sz k K :=
 ⟨k,f (l[k]'(by simpa using hk)),rfl,by simp at hk;simp [hk],hs _,h⟩
theorem IdxK.xs {l:List X} {k:Nat} {K:List AV->Prop} (hk:k<(X.avs l).length) (h:K (l[k]'(by rw [X.avs_len] at hk;exact hk)).cells):IdxK (X.avs l) 4 k K:=by
 rw [X.avs_len] at hk;refine ⟨k,.agg l[k].cells,rfl,?_,rfl,h⟩;rw [X.avs_eq];simp [hk]
theorem QX {l:List S} {k:Nat} {K:List AV->Prop} (hk:k<(S.avs l).length) (h:K (l[k]'(by rw [S.avs_len] at hk;exact hk)).cells):IdxK (S.avs l) 13 k K:=by
 rw [S.avs_len] at hk;refine ⟨k,.agg l[k].cells,rfl,?_,rfl,h⟩;rw [S.avs_eq];simp [hk]
theorem RetK.tt {H:Heap} {b:Bool} (h:b=true):RetK H (.p .tt) (fun r=>r = .bool b):=⟨_,.p (Sub.tt h),rfl⟩
theorem RetK.ff {H:Heap} {b:Bool} (h:b=false):RetK H (.p .ff) (fun r=>r = .bool b):=⟨_,.p (Sub.ff h),rfl⟩
theorem RetK.bool {H:Heap} {a b:Bool} (h:a=b):RetK H (.p (.bool a)) (fun r=>r = .bool b):=⟨_,.p (Sub.bool h),rfl⟩
theorem RetK.int {H:Heap} {k:IntKind} {m n:Int} (h:m=n):RetK H (.p (.int k m)) (fun r=>r = .int k n):=⟨_,.p (Sub.int h),rfl⟩
theorem RetK.p {H:Heap} {a b:AV} (h:a=b):RetK H (.p a) (fun r=>r=b):=⟨_,.p (Sub.of_eq h),rfl⟩
theorem QG {α:Type} {l:List α} {j:Nat} (h:j<l.length):l.drop j=l[j]::l.drop (j+1):=by simp
theorem GR {α:Type} {l:List α} {p:α->Bool} {j:Nat} (hj:j<l.length) (h:p l[j]=true):(l.drop (j+1)).all p=(l.drop j).all p:=by
 rw [QG hj,all_cons,h,Bool.true_and]
theorem q2s {α:Type} {l:List α} {p:α->Bool} {j:Nat} (hj:j<l.length) (h:p l[j]=false):(l.drop j).all p=false:=by
 rw [QG hj,all_cons,h,Bool.false_and]
theorem GV {α:Type} {l:List α} {p:α->Bool} {j:Nat} (hj:l.length<=j):(l.drop j).all p=true:=by
 rw [drop_eq_nil_of_le hj];rfl
theorem LG {α:Type} {l:List α} {p:α->Bool} {j:Nat} (hj:j<l.length) (h:p l[j]=false):(l.drop (j+1)).any p=(l.drop j).any p:=by
 rw [QG hj,any_cons,h,Bool.false_or]
theorem q1t {α:Type} {l:List α} {p:α->Bool} {j:Nat} (hj:j<l.length) (h:p l[j]=true):(l.drop j).any p=true:=by
 rw [QG hj,any_cons,h,Bool.true_or]
theorem GX {α:Type} {l:List α} {p:α->Bool} {j:Nat} (hj:l.length<=j):(l.drop j).any p=false:=by
 rw [drop_eq_nil_of_le hj];rfl
theorem w2a {α β:Type} {l:List α} {g:α->β} {j:Nat} (hj:j<l.length):(l.take (j+1)).map g=(l.take j).map g++[g l[j]]:=by
 rw [List.take_succ_eq_append_getElem hj,List.map_append];rfl
def q0y {α:Type} (p:α->Bool) (l:List α):Int:=bif l.any p then (l.findIdx p:Nat) else -1
theorem w0i {α:Type} {l:List α} {p:α->Bool} {j:Nat} (hj:j<l.length) (h:p l[j]=false):(l.drop j).findIdx p=(l.drop (j+1)).findIdx p+1:=by
 rw [QG hj,List.findIdx_cons,h,cond_false]
theorem w8n {α:Type} {l:List α} {p:α->Bool} {j:Nat} (hj:j<l.length) (h:p l[j]=true):(l.drop j).findIdx p=0:=by
 rw [QG hj,List.findIdx_cons,h,cond_true]
theorem q1g {α:Type} {p:α->Bool} {l:List α}:decide (q0y p l≥0)=l.any p:=by
 unfold q0y;cases l.any p<;>simp
theorem q4f {α:Type} {p:α->Bool} {l:List α} {j:Nat} (hj:j<l.length) (h:p l[j]=true) (h1:(l.drop j).any p=l.any p) (h2:l.findIdx p=j+(l.drop j).findIdx p):q0y p l=j:=by
 unfold q0y;rw [<- h1,q1t hj h,cond_true,h2,w8n hj h];rfl
theorem x1f {α:Type} {p:α->Bool} {l:List α} (h:l.any p=false):q0y p l = -1:=by
 unfold q0y;rw [h];rfl
theorem q2w {P:Program} {T:Tab} {N:Nat} {ops:Array Oper} {info:Info} {id:Nat} {K:St->Prop} {s:St} (S1:St) (h:DrawK P T N info id ops (fun s=>x5e info id s fun s3=>Le N s3 S1) s) (hK:x5e info id S1 K) :
  DrawK P T N info id ops (fun s=>x5e info id s K) s:=by
 refine ⟨⟨fun σ β a w hr=>Code.wp_mono (fun e a' w' hk => ?_) (h.ok.ok σ β a w hr)⟩⟩;obtain ⟨σ',β',s',hk,hr',hl⟩:=hk;cases e<;>simp only at hk ⊢;obtain ⟨s2,h1,h2⟩:=q1f (N:=N) hk;obtain ⟨σ2,β2,hr2,hl2⟩:=(h2.trans h1) σ' β' a' w' hr';exact ⟨σ2,β2,S1,hK,hr2,hl.trans hl2⟩
theorem z4n {P:Program} {T:Tab} {N:Nat} {ops:Array Oper} {info:Info} {id:Nat} {K:St->Prop} {s:St} (hT:TabOK P T) (hm:P.follows .mixedOrders=true) (hok:(bif x3h ops.size ops.toList then bif ble (info.sched id).len ops.size then WZ ops [] (info.sched id) else false else false)=true)
  (h:drW P T N ops (info.sched id) s K):DrawK P T N info id ops K s:=DrawK.of hT hm _ hok h
theorem bD {p:Prop} [Decidable p] {A B:Prop} (h:p->A) (h' : ¬p->B):Br (decide p) A B:=w8i h h'
theorem bE {p:Prop} [Decidable p] {A B:Prop} (h:p->A) (h' : ¬p->B):Br (!decide p) B A:=w6r h h'
theorem bB {b:Bool} {A B:Prop} (h:b=true->A) (h':b=false->B):Br b A B:=⟨h,h'⟩
theorem bN {b:Bool} {A B:Prop} (h:b=true->B) (h':b=false->A):Br (!b) A B:=Br.n h h'
theorem iM {n:Nat} {K:Prop} (h:n<=9223372036854775807->K):n<=9223372036854775807->K:=h
theorem wI {n:Int} {K:Int->Prop} (hk:K n) (h1 : -9223372036854775808<=n:=by omega) (h2:n<=9223372036854775807:=by omega):Wr .i64 n K:=Wr.i64 h1 h2 hk
theorem aD {a b c:Prop} (h:c) (h1:a:=by decide) (h2:b:=by decide):(a∧b)∧c:=⟨⟨h1,h2⟩,h⟩
theorem aR {a b c d:Prop} (h:d) (h1:a:=by exact rfl) (h2:b:=by exact rfl) (h3:c:=by decide):(a∧b∧c)∧d:=⟨⟨h1,h2,h3⟩,h⟩
theorem bP {es:List AV} {sz:Nat} {out:List LV} {Kp Ko:Prop} (hK:Kp) (hx : ∀ x∈es,x.cells.length=sz:=by intro x hx;rcases List.mem_singleton.1 hx with rfl;rfl) (ho:out=(es.flatMap AV.cells).map .p:=by exact rfl):BsK es sz out Kp Ko := .pure hx ho hK
theorem iA {α:Type} {f:α->AV} {l:List α} {sz k:Nat} {K:List AV->Prop} (h : ∀ hk:k<l.length,K (f l[k]).cells) (hk:k<(l.map f).length:=by omega) (hs : ∀ x,(f x).cells.length=sz:=by intro _;rfl):IdxK (l.map f) sz k K:=IdxK.map hk hs (h (by simpa using hk))
theorem dA {N:Nat} {ops:Array Oper} {info:Info} {id:Nat} {K:St->Prop} {s:St} (h:drW Tryz.prog tab N ops (info.sched id) s K) (hok:(bif x3h ops.size ops.toList then bif ble (info.sched id).len ops.size then WZ ops [] (info.sched id) else false else false)=true:=by kernel_rfl):DrawK Tryz.prog tab N info id ops K s:=z4n QY mixed hok h
theorem cP {P:Program} {N:Nat} {g:FuncId} {args:List LV} {dst:Option Nat} {s:St} {K:St->Prop} {avs:List AV} {c:AV} (hs:SpecP P g avs fun r=>r=c) (h:setD N s.sl dst (.p c) fun sl=>K ⟨sl,s.H⟩) (ha:ArgP args avs:=by (repeat (refine ArgP.cons ?_ ?_;first|exact Sub.refl _|exact Sub.tt rfl|exact Sub.ff rfl|exact Sub.int (by omega)));exact ArgP.nil):CallK P N g args dst s K:=CallK.pure hs ha fun _ e=>e▸h
theorem lE {N:Nat} {s:St} {sl':List (Nat×LV)} {H':Heap} (hnd:(H'.map (·.1)).Nodup:=by simp) (hsl:WkS [] s.sl sl':=by (repeat (refine WkS.cons ?_ ?_;exact Wk.refl _));exact WkS.nil) (hH:WkH [] s.H H':=by (repeat refine WkH.cons rfl (CWk.refl _) ?_);exact WkH.nil):Le N s ⟨sl',H'⟩:=Le.mk [] (by simp) (by simp) hnd hsl hH
theorem sB (info:Info) {f:FuncId} {fn:Func} {c:Code} (hf:Tryz.prog.funcs[f]? = some fn) (hb:fn.body=some c) (hgo : ∀ (vals:Array Value) (w:World),(callFunc f vals).run Tryz.prog w = .ok (.enter f vals) w)
  {args:List AV} {R:AV->Prop} (h:W Tryz.prog tab fn.ntmps info c (v2v tab fn.results R) ⟨x7q args 0,[]⟩) (hlen:args.length<=fn.ntmps:=by exact Nat.le_of_ble_eq_true rfl):SpecP Tryz.prog f args R:=SpecP.body info QY hf hb hgo hlen h
theorem sH (info:Info) {f:FuncId} {fn:Func} {c:Code} (hf:Tryz.prog.funcs[f]? = some fn) (hb:fn.body=some c) (hgo : ∀ (vals:Array Value) (w:World),(callFunc f vals).run Tryz.prog w = .ok (.enter f vals) w)
  {args:List LV} {H:Heap} {R:LV->Heap->Prop} (h:W Tryz.prog tab fn.ntmps info c (v2j tab fn.results R) ⟨q2p args 0,H⟩) (hlen:args.length<=fn.ntmps:=by exact Nat.le_of_ble_eq_true rfl):SpecH Tryz.prog f args H R:=SpecH.body info QY hf hb hgo hlen h
def UT (c:UInt8):Bool:=decide (97<=(c.toNat:Int))&&decide ((c.toNat:Int)<=122)
def PS (c:UInt8):Bool:=decide (48<=(c.toNat:Int))&&decide ((c.toNat:Int)<=57)
def w1i (c:UInt8):Bool:=UT c||PS c
theorem q8o (c:UInt8):SpecP Tryz.prog 255 [.int .u8 c.toNat] (fun r=>r = .bool (UT c)):=by
 refine sB x5j Tryz.func255 rfl Tryz.call255 ?_;conv=>whnf
 repeat' (apply bD<;>intro _<;>first|omega|conv=>whnf)
 ·exact RetK.bool (by simp_all [UT];try omega)
 ·exact RetK.ff (by simp_all [UT];try omega)
theorem z7l (c:UInt8):SpecP Tryz.prog 320 [.int .u8 c.toNat] (fun r=>r = .bool (PS c)):=by
 refine sB x8z Tryz.func320 rfl Tryz.call320 ?_;conv=>whnf
 repeat' (apply bD<;>intro _<;>first|omega|conv=>whnf)
 ·exact RetK.bool (by simp_all [PS];try omega)
 ·exact RetK.ff (by simp_all [PS];try omega)
def YZ (s:Str) (i:Nat):Nat:=i+((s.drop i).takeWhile w1i).length
theorem DG {s:Str} {i:Nat} (h:i<s.length) (hc:w1i s[i]=true):YZ s (i+1)=YZ s i:=by
 unfold YZ;rw [QG h,List.takeWhile_cons,if_pos hc];simp only [List.length_cons];omega
theorem MQ {s:Str} {i:Nat} (h : ∀ (hi:i<s.length),w1i s[i]=false):YZ s i=i:=by
 unfold YZ;by_cases hi:i<s.length
 ·rw [QG hi,List.takeWhile_cons,if_neg (by simp [h hi])];rfl
 ·rw [drop_eq_nil_of_le (by omega)];rfl
theorem w6z (s:Str) (i:Nat) (hi:i<=s.length):SpecP Tryz.prog 256 [.str s,.int .i64 i] (fun r=>r = .int .i64 (YZ s i)):=by
 refine sB z7q Tryz.func256 rfl Tryz.call256 ?_;conv=>whnf
 refine LoopK.inv QY (fun j:Nat=>⟨[(0,.p (.str s)),(1,.p (.int .i64 j))],[]⟩) (fun j=>j<=s.length∧YZ s j=YZ s i) (fun j=>s.length-j) i (Le.of_eq rfl) ⟨hi,rfl⟩ ?_;rintro j ⟨h2,h3⟩;conv=>whnf
 repeat' (first|((first|(refine iM fun _=>?_)|refine cP (q8o _) ?_|refine cP (z7l _) ?_|(refine ByteK.at (by omega) ?_)|refine wI ?_);conv=>whnf)|(apply bD<;>intro _<;>first|omega|conv=>whnf)|(apply bB<;>intro _<;>conv=>whnf))
 ·exact ⟨j+1,⟨by omega,by rw [DG (by omega) (by simp_all [w1i])];exact h3⟩,by omega,Le.of_eq rfl⟩
 ·exact ⟨j+1,⟨by omega,by rw [DG (by omega) (by simp_all [w1i])];exact h3⟩,by omega,Le.of_eq rfl⟩
 ·exact RetK.int (by rw [<- h3,MQ fun _=>by simp_all [w1i]])
 ·exact RetK.int (by rw [<- h3,MQ fun _=>by omega])
def q2g (s:Str):Bool:=decide (s=[103,108,111,98,97,108])||decide (s=[112,114,111,99])||decide (s=[118,97,114])||decide (s=[114,101,102])||decide (s=[105,102])||decide (s=[101,108,115,101])||decide (s=[119,104,105,108,101])||decide (s=[98,114,101,97,107])||decide (s=[99,111,110,116,105,110,117,101])||decide (s=[114,101,116,117,114,110])||decide (s=[103,111,116,111])||decide (s=[114,101,97,100])||decide (s=[112,114,105,110,116])
theorem w2n (s:Str):SpecP Tryz.prog 257 [.str s] (fun r=>r = .bool (q2g s)):=by
 refine sB z2t Tryz.func257 rfl Tryz.call257 ?_;conv=>whnf
 repeat' (apply bB<;>intro _<;>conv=>whnf)
 all_goals first
  | exact RetK.tt (by simp_all [q2g])
  | exact RetK.ff (by simp_all [q2g])
def isName (s:Str):Bool:=if h:1<=s.length∧s.length<=8 then UT (s[0]'(by omega))&&decide (YZ s 0=s.length) && !q2g s else false
theorem LN (s:Str):SpecP Tryz.prog 169 [.str s] (fun r=>r = .bool (isName s)):=by
 refine sB z2b Tryz.func169 rfl Tryz.call169 ?_;conv=>whnf
 repeat' (first|((first|(refine iM fun _=>?_)|refine cP (q8o _) ?_|refine cP (w6z _ 0 (zero_le _)) ?_|refine cP (w2n _) ?_|(refine ByteK.at (k:=0) (by omega) ?_));conv=>whnf)|(apply bD<;>intro _<;>first|omega|conv=>whnf)|(apply bN<;>intro _<;>conv=>whnf))
 ·exact RetK.ff (by unfold isName;rw [dif_neg (by omega)])
 ·exact RetK.ff (by unfold isName;rw [dif_neg (by omega)])
 ·exact RetK.bool (by unfold isName;rw [dif_pos (by omega)];simp_all;omega)
 ·exact RetK.ff (by unfold isName;rw [dif_pos (by omega)];simp_all;omega)
 ·exact RetK.ff (by unfold isName;rw [dif_pos (by omega)];simp_all)
def namesB (l:List Str):Bool:=l.all isName
theorem q1d (l:List Str):SpecP Tryz.prog 223 [eStrs l] (fun r=>r = .bool (namesB l)):=by
 refine sB x5c Tryz.func223 rfl Tryz.call223 ?_;conv=>whnf
 refine iM fun _=>?_;conv=>whnf
 refine LoopK.inv QY (fun j:Nat=>⟨[(5,.p (eStrs l)),(6,.p (.int .i64 (l.map AV.str).length)),(7,.p (.int .i64 j))],[]⟩) (fun j=>j<=l.length∧(l.drop j).all isName=namesB l) (fun j=>l.length-j) 0 (Le.of_eq rfl) ⟨zero_le _,rfl⟩ ?_;rintro j ⟨h2,h3⟩;have hl:(l.map AV.str).length=l.length:=length_map _;conv=>whnf
 repeat' (first|((first|refine cP (LN _) ?_|(refine iA fun _=>?_)|refine wI ?_);conv=>whnf)|(apply bD<;>intro _<;>first|omega|conv=>whnf)|(apply bN<;>intro _<;>conv=>whnf))
 ·exact ⟨j+1,⟨by omega,by rw [GR (by omega) (by assumption)];exact h3⟩,by omega,Le.of_eq rfl⟩
 ·exact RetK.ff (by rw [<- h3,q2s (by omega) (by assumption)])
 ·exact RetK.tt (by rw [<- h3,GV (by omega)])
def q3b (op:Int):Int:=if op=1∨op=2 then 0 else if op=3∨op=4 then 1 else if 5<=op∧op<=17 then 2 else -1
theorem z6l (op:Int):SpecP Tryz.prog 168 [.int .i64 op] (fun r=>r = .int .i64 (q3b op)):=by
 refine sB x8a Tryz.func168 rfl Tryz.call168 ?_;conv=>whnf
 repeat' (apply bD<;>intro _<;>first|omega|conv=>whnf)
 all_goals exact RetK.int (by unfold q3b;(repeat' split)<;>omega)
def WK:Nat->X->Bool
 | 0,_=>false
 | n+1,x=>decide ((x.kids.length:Int)=q3b x.op)&&(if x.op=1 then decide (0<=x.n)&&(x.name==[]) else if x.op=2 then decide (x.n=0)&&isName x.name else decide (x.n=0)&&(x.name==[])&&x.kids.all (WK n))
theorem z9u : ∀ (n:Nat) (_:n<=1000) (x:X),SpecP Tryz.prog 97 [.agg x.cells,.int .i64 n] (fun r=>r = .bool (WK n x)):=by
 intro n;induction n with
 | zero =>
   intro _ x;refine sB q4a Tryz.func97 rfl Tryz.call97 ?_;conv=>whnf
   repeat' (first|(refine dA ?_;conv=>whnf)|(apply bD<;>intro _<;>first|omega|conv=>whnf))
   exact RetK.ff rfl
 | succ n ih =>
   intro hn x;refine sB q4a Tryz.func97 rfl Tryz.call97 ?_;conv=>whnf
   repeat' (first|((first|(refine iM fun _=>?_)|refine cP (z6l _) ?_|refine cP (LN _) ?_|refine dA ?_);conv=>whnf)|(apply bD<;>intro _<;>first|omega|conv=>whnf)|(apply bE<;>intro _<;>first|omega|conv=>whnf)|(apply bN<;>intro _<;>conv=>whnf))
   all_goals try (have hk:((X.avs x.kids).length:Int)=x.kids.length:=by rw [X.avs_len])
   ·exact RetK.bool (by simp_all [WK])
   ·exact RetK.ff (by simp_all [WK];try omega)
   ·exact RetK.bool (by simp_all [WK])
   ·exact RetK.ff (by simp_all [WK];try omega)
   ·have h0:WK (n+1) x=x.kids.all (WK n):=by simp_all [WK]
    rw [h0];refine LoopK.inv QY (fun j:Nat=>⟨[(1,.p (.int .i64 (n+1:Nat))),(49,.p (.sl (X.avs x.kids))),(50,.p (.int .i64 (X.avs x.kids).length)),(51,.p (.int .i64 j))],[]⟩) (fun j=>j<=x.kids.length∧(x.kids.drop j).all (WK n)=x.kids.all (WK n)) (fun j=>x.kids.length-j) 0 (Le.of_eq rfl) ⟨zero_le _,rfl⟩ ?_;rintro j ⟨h2,h3⟩;conv=>whnf
    repeat' (first|((first|refine And.intro rfl ?_|refine IdxK.xs (by omega) ?_|refine wI ?_|(refine CallK.pure (ih (by omega) _) (.cons (Sub.refl _) (.cons (Sub.int (by omega)) .nil)) ?_;rintro _ rfl));conv=>whnf)|(apply bD<;>intro _<;>first|omega|conv=>whnf)|(apply bN<;>intro _<;>conv=>whnf))
    ·exact ⟨j+1,⟨by omega,by rw [GR (by omega) (by assumption)];exact h3⟩,by omega,Le.of_eq rfl⟩
    ·exact RetK.ff (by rw [<- h3,q2s (by omega) (by assumption)])
    ·exact RetK.tt (by rw [<- h3,GV (by omega)])
   ·exact RetK.ff (by simp_all [WK];try omega)
   ·exact RetK.ff (by simp_all [WK];try omega)
   ·exact RetK.ff (by simp_all [WK];try omega)
def z3w (x:X):Bool:=WK 20 x
theorem DX (x:X):SpecP Tryz.prog 32 [.agg x.cells] (fun r=>r = .bool (z3w x)):=by
 refine sB q7c Tryz.func32 rfl Tryz.call32 ?_;conv=>whnf
 repeat' (refine cP (z9u 20 (by omega) _) ?_;conv=>whnf)
 exact RetK.p rfl
def noneB (x:X):Bool:=decide (x.op=0)&&decide (x.n=0)&&(x.name==[])&&((x.kids.length:Int)==0)
theorem z7k (x:X):SpecP Tryz.prog 371 [.agg x.cells] (fun r=>r = .bool (noneB x)):=by
 refine sB x7s Tryz.func371 rfl Tryz.call371 ?_;conv=>whnf
 repeat' (first|(refine iM fun _=>?_;conv=>whnf)|(apply bD<;>intro _<;>first|omega|conv=>whnf)|(apply bB<;>intro _<;>conv=>whnf))
 all_goals have hk:((X.avs x.kids).length:Int)=x.kids.length:=by rw [X.avs_len]
 all_goals first
  | exact RetK.ff (by simp_all [noneB])
  | exact RetK.bool (by simp_all [noneB])
def UD (s:Str) (is:Bool):Bool:=bif is then isName s else s==[]
theorem q8i (s:Str) (is:Bool):SpecP Tryz.prog 348 [.str s,.bool is] (fun r=>r = .bool (UD s is)):=by
 refine sB x4n Tryz.func348 rfl Tryz.call348 ?_;conv=>whnf
 repeat' (first|(refine cP (LN _) ?_;conv=>whnf)|(apply bN<;>intro _<;>conv=>whnf)|(apply bB<;>intro _<;>conv=>whnf))
 all_goals first
  | exact RetK.tt (by simp_all [UD])
  | exact RetK.ff (by simp_all [UD])
  | exact RetK.bool (by simp_all [UD])
def HH (x:X) (is:Bool):Bool:=bif is then z3w x else noneB x
theorem q9h (x:X) (is:Bool):SpecP Tryz.prog 349 [.agg x.cells,.bool is] (fun r=>r = .bool (HH x is)):=by
 refine sB x5y Tryz.func349 rfl Tryz.call349 ?_;conv=>whnf
 repeat' (first|((first|refine cP (DX _) ?_|refine cP (z7k _) ?_);conv=>whnf)|(apply bN<;>intro _<;>conv=>whnf)|(apply bB<;>intro _<;>conv=>whnf))
 all_goals first
  | exact RetK.tt (by simp_all [HH])
  | exact RetK.ff (by simp_all [HH])
  | exact RetK.bool (by simp_all [HH])
def LR (a:Arg):Bool:=UD a.name a.ref&&HH a.x (!a.ref)
theorem x9s (l:List Arg):SpecP Tryz.prog 350 [z5b l] (fun r=>r = .bool (l.all LR)):=by
 refine sB x2x Tryz.func350 rfl Tryz.call350 ?_;conv=>whnf
 refine iM fun _=>?_;conv=>whnf
 refine LoopK.inv QY (fun j:Nat=>⟨[(5,.p (z5b l)),(6,.p (.int .i64 (l.map fun a=>AV.agg a.cells).length)),(7,.p (.int .i64 j))],[]⟩) (fun j=>j<=l.length∧(l.drop j).all LR=l.all LR) (fun j=>l.length-j) 0 (Le.of_eq rfl) ⟨zero_le _,rfl⟩ ?_;rintro j ⟨h2,h3⟩;have hl:(l.map fun a=>AV.agg a.cells).length=l.length:=length_map _;conv=>whnf
 repeat' (first|((first|refine cP (q8i _ _) ?_|refine cP (q9h _ _) ?_|refine And.intro rfl ?_|(refine iA fun _=>?_)|refine wI ?_);conv=>whnf)|(apply bD<;>intro _<;>first|omega|conv=>whnf)|(apply bN<;>intro _<;>conv=>whnf))
 ·exact ⟨j+1,⟨by omega,by rw [GR (by omega) (by simp_all [LR])];exact h3⟩,by omega,Le.of_eq rfl⟩
 ·exact RetK.ff (by rw [<- h3,q2s (by omega) (by simp_all [LR])])
 ·exact RetK.ff (by rw [<- h3,q2s (by omega) (by simp_all [LR])])
 ·exact RetK.tt (by rw [<- h3,GV (by omega)])
structure Flds where
 name:Bool
 proc:Bool
 x:Bool
 has:Bool
 thn:Bool
 els:Bool
def NS (k:Int) (has:Bool) (noName:Bool):Option Flds :=
 if k=1 then some ⟨true,false,true,has,false,false⟩
 else if k=2 then some ⟨true,false,false,has,false,false⟩
 else if k=10 then some ⟨true,false,false,has,false,false⟩
 else if k=3 then some ⟨false,false,true,has,false,false⟩
 else if k=4 then some ⟨!noName,true,false,has,false,false⟩
 else if k=5 then some ⟨false,false,true,has,true,true⟩
 else if k=6 then some ⟨false,false,true,has,true,false⟩
 else if k=9 then some ⟨false,false,has,false,false,false⟩
 else if k=7 then some ⟨false,false,false,has,false,false⟩
 else if k=8 then some ⟨false,false,false,has,false,false⟩
 else none
def WW (s:S):Bool :=
 match NS s.kind s.has (s.name==[]) with
 | none=>false
 | some f => !(f.has||(!f.thn&&decide (0<s.thn.length))||(!f.els&&decide (0<s.els.length))||(!decide (s.kind=4)&&decide (0<s.args.length)))&&UD s.name f.name&&UD s.proc f.proc&&HH s.x f.x&&s.args.all LR
theorem q8p {s:S} {f:Flds} (h:NS s.kind s.has (s.name==[])=some f):WW s=(!(f.has||(!f.thn&&decide (0<s.thn.length))||(!f.els&&decide (0<s.els.length))||(!decide (s.kind=4)&&decide (0<s.args.length)))&&UD s.name f.name&&UD s.proc f.proc&&HH s.x f.x&&s.args.all LR):=by
 unfold WW;rw [h]
theorem x8b (s:S):SpecP Tryz.prog 301 [.agg s.cells] (fun r=>r = .bool (WW s)):=by
 refine sB x2t Tryz.func301 rfl Tryz.call301 ?_;conv=>whnf
 repeat' (first|((first|(refine iM fun _=>?_)|refine cP (q8i _ _) ?_|refine cP (q9h _ _) ?_|refine cP (x9s _) ?_|refine dA ?_);conv=>whnf)|(apply bD<;>intro _<;>first|omega|conv=>whnf)|(apply bE<;>intro _<;>first|omega|conv=>whnf)|(apply bN<;>intro _<;>conv=>whnf)|(apply bB<;>intro _<;>conv=>whnf))
 all_goals first
  | exact RetK.ff (by simp_all [WW,NS,S.avs_len])
  | exact RetK.bool (by simp_all [WW,NS,S.avs_len])
  | exact RetK.ff (by simp_all [WW,NS,S.avs_len];omega)
mutual
def x0e (nest seen:Int):S->Option Int
 | .mk id kind labels name proc x has args thn els =>
   if seen+1>200 then none else if id≠seen+1 then none else
   bif namesB labels then bif WW (.mk id kind labels name proc x has args thn els) then
    match UR (nest+1) (seen+1) thn with
    | some m=>UR (nest+1) m els
    | none=>none
   else none else none
def UR (nest seen:Int):List S->Option Int
 | []=>some seen
 | s::r=>if nest>12 then none else match x0e nest seen s with
   | some m=>UR nest m r
   | none=>none
end
theorem z4t (nest seen:Int) (s:S):x0e nest seen s=if seen+1>200 then none else if s.id≠seen+1 then none else
  bif namesB s.labels then bif WW s then
   match UR (nest+1) (seen+1) s.thn with
   | some m=>UR (nest+1) m s.els
   | none=>none
  else none else none:=by
 cases s;rw [x0e];rfl
mutual
theorem w5l (nest seen:Int) : ∀ (s:S) {m:Int},x0e nest seen s=some m->seen<m∧m<=200
 | .mk id kind labels name proc x has args thn els,m,h=>by
   simp only [x0e] at h;split at h
   ·cases h
   split at h
   ·cases h
   cases hn:namesB labels<;>rw [hn] at h
   ·cases h
   cases hf:WW (.mk id kind labels name proc x has args thn els)<;>rw [hf] at h
   ·cases h
   simp only [cond_true] at h;split at h
   ·rename_i m1 h1;have h2:=q7u (nest+1) (seen+1) thn (by omega) h1;have h3:=q7u (nest+1) m1 els h2.2 h;omega
   ·cases h
theorem q7u (nest seen:Int) : ∀ (l:List S) {m:Int},seen<=200->UR nest seen l=some m->seen<=m∧m<=200
 | [],m,h0,h=>by
   simp only [UR] at h;cases h;omega
 | s::r,m,h0,h=>by
   simp only [UR] at h;split at h
   ·cases h
   split at h
   ·rename_i m1 h1;have h2:=w5l nest seen s h1;have h3:=q7u nest m1 r h2.2 h;omega
   ·cases h
end
def x9v (T:Nat) (nest seen:Int) (l:List S) (r:LV) (H:Heap):Prop :=
 match UR nest seen l with
 | some m=>r = .p .tt∧H=[(1000,.obj T [.p (.int .i64 m)])]
 | none=>r = .p .ff ∧ ∃ m,H=[(1000,.obj T [.p (.int .i64 m)])]
theorem q9u {T:Nat} {nest seen m:Int} {l:List S} (h:UR nest seen l=some m):RetHK [(1000,.obj T [.p (.int .i64 m)])] (.p .tt) (x9v T nest seen l) :=
 ⟨.p .tt,.refl _,by unfold x9v;rw [h];exact ⟨rfl,rfl⟩⟩
theorem q1u {T:Nat} {nest seen m:Int} {l:List S} (h:UR nest seen l=none):RetHK [(1000,.obj T [.p (.int .i64 m)])] (.p .ff) (x9v T nest seen l) :=
 ⟨.p .ff,.refl _,by unfold x9v;rw [h];exact ⟨rfl,_,rfl⟩⟩
theorem q6l {T:Nat} {nest seen:Int} {l:List S} {Q:LV->Heap->Prop} (hs:seen<=200) (h1 : ∀ m,UR nest seen l=some m->seen<=m->m<=200->Q (.p .tt) [(1000,.obj T [.p (.int .i64 m)])])
  (h2:UR nest seen l=none -> ∀ m,Q (.p .ff) [(1000,.obj T [.p (.int .i64 m)])]) : ∀ l' H',x9v T nest seen l l' H'->Q l' H':=by
 intro l' H' h;unfold x9v at h;cases hr:UR nest seen l with
 | some m =>
   rw [hr] at h;obtain ⟨rfl,rfl⟩:=h;have:=q7u nest seen l hs hr;exact h1 m hr this.1 this.2
 | none =>
   rw [hr] at h;obtain ⟨rfl,m,rfl⟩:=h;exact h2 hr m
theorem x5u {nest seen:Int} {l:List S} (h:nest>12) (hl:0<l.length):UR nest seen l=none:=by
 cases l with
 | nil=>cases hl
 | cons s r=>simp only [UR];rw [if_pos h]
theorem z5y {nest seen:Int} {l:List S} {j:Nat} (h : ¬nest>12) (hj:j<l.length):UR nest seen (l.drop j)=match x0e nest seen l[j] with
  | some m=>UR nest m (l.drop (j+1))
  | none=>none:=by
 rw [QG hj,UR,if_neg h]
theorem z6w : ∀ (d n:Nat) (_:n+d=14) (l:List S) (seen:Int) (_:0<=seen) (_:seen<=200),
  SpecH Tryz.prog 224 [.ptr 1000 0,.p (eSs l),.p (.int .i64 n)] [(1000,.obj 250 [.p (.int .i64 seen)])] (x9v 250 n seen l):=by
 intro d;induction d with
 | zero =>
   intro n hn l seen h0 h1;refine sH JZ Tryz.func224 rfl Tryz.call224 ?_;conv=>whnf
   repeat' (first|(refine iM fun _=>?_;conv=>whnf)|(apply bD<;>intro _<;>first|omega|conv=>whnf))
   ·exact q1u (x5u (by omega) (by rw [S.avs_len] at *;omega))
   ·have hl:=S.avs_len l;obtain rfl:l=[]:=List.eq_nil_of_length_eq_zero (by omega);refine LoopK.inv QY (fun _:Unit=>⟨[(0,.ptr 1000 0),(2,.p (.int .i64 n)),(16,.p (eSs [])),(17,.p (.int .i64 (S.avs []).length)),(18,.p (.int .i64 0))],[(1000,.obj 250 [.p (.int .i64 seen)])]⟩) (fun _=>True) (fun _=>0) () (Le.of_eq rfl) trivial ?_;intro _ _;conv=>whnf
    repeat' (apply bD<;>intro _<;>first|omega|conv=>whnf)
    exact q9u rfl
 | succ d ih =>
   intro n hn l seen h0 h1;refine sH JZ Tryz.func224 rfl Tryz.call224 ?_;have hl:=S.avs_len l;conv=>whnf
   repeat' (first|(refine iM fun _=>?_;conv=>whnf)|(apply bD<;>intro _<;>first|omega|conv=>whnf))
   ·exact q1u (x5u (by omega) (by omega))
   all_goals
    refine LoopK.inv QY (fun i:Nat×Int=>⟨[(0,.ptr 1000 0),(2,.p (.int .i64 n)),(16,.p (eSs l)),(17,.p (.int .i64 (S.avs l).length)),(18,.p (.int .i64 i.1))],[(1000,.obj 250 [.p (.int .i64 i.2)])]⟩) (fun i=>i.1<=l.length∧0<=i.2∧i.2<=200∧UR n i.2 (l.drop i.1)=UR n seen l) (fun i=>l.length-i.1) (0,seen) (Le.of_eq rfl) ⟨zero_le _,h0,h1,rfl⟩ ?_;rintro ⟨j,m⟩ ⟨h2,h3,h4,h5⟩;simp only at h2 h3 h4 h5 ⊢;conv=>whnf
    repeat' (first|((first|refine cP (q1d _) ?_|refine cP (x8b _) ?_|refine dA ?_|refine And.intro rfl ?_|refine QX (by omega) ?_|refine wI ?_);conv=>whnf)|(apply bD<;>intro _<;>first|omega|conv=>whnf)|(apply bE<;>intro _<;>first|omega|conv=>whnf)|(apply bN<;>intro _<;>conv=>whnf)|(refine CallK.heap [(1000,1000)] 0 (by repeat' (first|exact ArgsH.nil|refine ArgsH.cons ?_ ?_|exact LSub.refl _|exact LSub.p Sub.nils|exact LSub.p (Sub.tt rfl)|exact LSub.p (Sub.ff rfl)|exact LSub.p (Sub.int (by omega)))) (by refine BlksH.cons (j:=1000) rfl rfl ?_ ?_;exact CSub.refl _;exact BlksH.nil) (ih (n+1) (by omega) _ _ (by omega) (by omega)) rfl rfl (q6l (by omega) (fun _ _ _ _ => ?_) (fun _ _ => ?_))<;>conv=>whnf))
    all_goals try (have hst:=z5y (seen:=m) (l:=l) (j:=j) (nest:=(n:Int)) (by omega) (by omega);rw [z4t,show (n:Int)+1=((n+1:Nat):Int) from rfl] at hst)
    all_goals first
     | exact q9u (by rw [<- h5,drop_eq_nil_of_le (by omega)];simp only [UR])
     | exact q1u (by rw [<- h5,hst];clear h5 hst;first|rw [if_pos (by omega:m+1>200)]|(rw [if_neg (by omega : ¬m+1>200)];simp [*,-Int.natCast_add]))
     | exact ⟨(j+1,_),⟨by simp only;omega,by simp only;omega,by simp only;omega,by rw [<- h5,hst];clear h5 hst;first|rw [if_pos (by omega:m+1>200)]|(rw [if_neg (by omega : ¬m+1>200)];simp [*,-Int.natCast_add])⟩,by simp only;omega,Le.of_eq rfl⟩
     | trace_state
def JH (f:Pr):Bool:=decide (f.params.length<=8)&&decide (f.vars.length<=16)&&isName f.name&&namesB f.vars&&namesB f.fin&&f.params.all fun a=>isName a.name
def XR (seen:Int):List Pr->Option Int
 | []=>some seen
 | f::r=>bif JH f then match UR 1 seen f.body with
    | some m=>XR m r
    | none=>none
   else none
def YS (p:Pg):Bool:=decide (p.globals.length<=16)&&decide (p.procs.length<=16)&&namesB p.globals&&(XR 0 p.procs).isSome
theorem q6s {seen:Int} {l:List Pr} {j:Nat} (hj:j<l.length):XR seen (l.drop j)=bif JH l[j] then match UR 1 seen l[j].body with
   | some m=>XR m (l.drop (j+1))
   | none=>none
  else none:=by
 rw [QG hj,XR]
theorem YM {f:Pr}:JH f=true↔f.params.length<=8∧f.vars.length<=16∧isName f.name=true∧namesB f.vars=true∧namesB f.fin=true∧(f.params.all fun a=>isName a.name)=true:=by
 simp only [JH,Bool.and_eq_true,decide_eq_true_eq,and_assoc]
theorem q7y {seen:Int} {l:List Pr} {j:Nat} (hj:j<l.length) (h : ¬(l[j].params.length<=8∧l[j].vars.length<=16∧isName l[j].name=true∧namesB l[j].vars=true∧namesB l[j].fin=true∧(l[j].params.all fun a=>isName a.name)=true)):(XR seen (l.drop j)).isSome=false:=by
 rw [q6s hj];have:JH l[j]=false:=by rw [Bool.eq_false_iff];intro hm;exact h (YM.1 hm)
 rw [this];rfl
theorem z0j (p:Pg):SpecP Tryz.prog 144 [.agg p.cells] (fun r=>r = .bool (YS p)):=by
 refine sB z2r Tryz.func144 rfl Tryz.call144 ?_;conv=>whnf
 repeat' (first|((first|(refine iM fun _=>?_)|refine cP (q1d _) ?_|refine And.intro rfl ?_);conv=>whnf)|(apply bD<;>intro _<;>first|omega|conv=>whnf)|(apply bN<;>intro _<;>conv=>whnf))
 all_goals try have hl1:(p.globals.map AV.str).length=p.globals.length:=length_map _
 all_goals try have hl2:(p.procs.map fun f=>AV.agg f.cells).length=p.procs.length:=length_map _
 ·exact RetK.ff (by unfold YS;simp;omega)
 ·exact RetK.ff (by unfold YS;simp;omega)
 ·have h0:YS p=(XR 0 p.procs).isSome:=by unfold YS;simp [*];omega
  rw [h0];refine LoopK.inv QY (fun i:Nat×Int=>⟨[(3,.ptr 0 0),(27,.p (.sl (p.procs.map fun f=>AV.agg f.cells))),(28,.p (.int .i64 (p.procs.map fun f=>AV.agg f.cells).length)),(29,.p (.int .i64 i.1))],[(0,.obj 250 [.p (.int .i64 i.2)])]⟩) (fun i=>i.1<=p.procs.length∧0<=i.2∧i.2<=200∧XR i.2 (p.procs.drop i.1)=XR 0 p.procs) (fun i=>p.procs.length-i.1) (0,0) (Le.of_eq rfl) ⟨zero_le _,by decide,by decide,rfl⟩ ?_;rintro ⟨j,m⟩ ⟨h2,h3,h4,h5⟩;simp only at h2 h3 h4 h5 ⊢;conv=>whnf
  repeat' (first|((first|(refine iM fun _=>?_)|refine cP (q1d _) ?_|refine cP (LN _) ?_|refine And.intro rfl ?_|(refine iA fun _=>?_));conv=>whnf)|(apply bD<;>intro _<;>first|omega|conv=>whnf)|(apply bN<;>intro _<;>conv=>whnf))
  all_goals try have hl3:((p.procs[j]'(by omega)).params.map fun a=>AV.agg a.cells).length=(p.procs[j]'(by omega)).params.length:=length_map _
  all_goals try have hl4:((p.procs[j]'(by omega)).vars.map AV.str).length=(p.procs[j]'(by omega)).vars.length:=length_map _
  rotate_left 2
  ·have hj:j<p.procs.length:=by omega
   refine LoopK.inv QY (fun i:Nat=>⟨[(3,.ptr 0 0),(5,.p (.ip p.procs[j].cells)),(27,.p (.sl (p.procs.map fun f=>AV.agg f.cells))),(28,.p (.int .i64 (p.procs.map fun f=>AV.agg f.cells).length)),(29,.p (.int .i64 j)),(62,.p (.sl (p.procs[j].params.map fun a=>AV.agg a.cells))),(63,.p (.int .i64 (p.procs[j].params.map fun a=>AV.agg a.cells).length)),(64,.p (.int .i64 i))],[(0,.obj 250 [.p (.int .i64 m)])]⟩) (fun i=>i<=p.procs[j].params.length∧((p.procs[j].params.drop i).all fun a=>isName a.name)=p.procs[j].params.all fun a=>isName a.name) (fun i=>p.procs[j].params.length-i) 0 (Le.of_eq rfl) ⟨zero_le _,rfl⟩ ?_;rintro i ⟨h6,h7⟩;conv=>whnf
   repeat' (first|((first|refine cP (LN _) ?_|refine And.intro rfl ?_|(refine iA fun _=>?_)|refine wI ?_);conv=>whnf)|(apply bD<;>intro _<;>first|omega|conv=>whnf)|(apply bN<;>intro _<;>conv=>whnf)|(refine CallK.heap [(1000,0)] 0 (by repeat' (first|exact ArgsH.nil|refine ArgsH.cons ?_ ?_|exact LSub.refl _|exact LSub.p Sub.nils|exact LSub.p (Sub.tt rfl)|exact LSub.p (Sub.ff rfl)|exact LSub.p (Sub.int (by omega)))) (by refine BlksH.cons (j:=0) rfl rfl ?_ ?_;exact CSub.refl _;exact BlksH.nil) (z6w 13 1 rfl _ _ (by omega) (by omega)) rfl rfl (q6l (by omega) (fun _ _ _ _ => ?_) (fun _ _ => ?_))<;>conv=>whnf))
   ·exact ⟨i+1,⟨by omega,by rw [<- h7,GR (p:=fun a:Param=>isName a.name) (by omega) (by assumption)]⟩,by omega,Le.of_eq rfl⟩
   ·exact RetK.ff (by
     rw [<- h5];refine q7y hj fun h => ?_;have:=q2s (p:=fun a:Param=>isName a.name) (l:=p.procs[j].params) (j:=i) (by omega) (by assumption);rw [h7,h.2.2.2.2.2] at this;cases this)
   all_goals
    have hall:(p.procs[j].params.all fun a=>isName a.name)=true:=by rw [<- h7,GV (by omega)]
    have hp:JH p.procs[j]=true:=YM.2 ⟨by omega,by omega,by assumption,by assumption,by assumption,hall⟩;have hst:=q6s (seen:=m) hj;rw [hp,cond_true] at hst
   ·rename_i m2 hrow _ _;replace hrow:UR 1 m p.procs[j].body=some m2:=hrow;rw [hrow] at hst;exact ⟨(j+1,m2),⟨by simp only;omega,by simp only;omega,by simp only;omega,by rw [<- h5,hst]⟩,by simp only;omega,Le.of_eq rfl⟩
   ·rename_i hrow _;replace hrow:UR 1 m p.procs[j].body=none:=hrow;rw [hrow] at hst;exact RetK.ff (by rw [<- h5,hst];rfl)
  all_goals first
   | exact RetK.tt (by rw [<- h5,drop_eq_nil_of_le (by omega)];rfl)
   | exact RetK.ff (by rw [<- h5];exact q7y (by omega) fun h=>by omega)
   | exact RetK.ff (by rw [<- h5];exact q7y (by omega) fun h=>by simp_all)
 ·exact RetK.ff (by unfold YS;simp [*])
theorem ZR (l:List Str) (v:Str):SpecP Tryz.prog 175 [eStrs l,.str v] (fun r=>r = .int .i64 (q0y (fun s=>v==s) l)):=by
 refine sB UK Tryz.func175 rfl Tryz.call175 ?_;conv=>whnf
 refine iM fun _=>?_;have hl:(l.map AV.str).length=l.length:=length_map _;conv=>whnf
 refine LoopK.inv QY (fun j:Nat=>⟨[(0,.p (eStrs l)),(1,.p (.str v)),(7,.p (.int .i64 (l.map AV.str).length)),(8,.p (.int .i64 j))],[]⟩) (fun j=>j<=l.length∧(l.drop j).any (fun s=>v==s)=l.any (fun s=>v==s)∧l.findIdx (fun s=>v==s)=j+(l.drop j).findIdx (fun s=>v==s)) (fun j=>l.length-j) 0 (Le.of_eq rfl) ⟨zero_le _,rfl,by simp⟩ ?_;rintro j ⟨h2,h3,h4⟩;conv=>whnf
 repeat' (first|((first|(refine iA fun _=>?_)|refine wI ?_);conv=>whnf)|(apply bD<;>intro _<;>first|omega|conv=>whnf)|(apply bB<;>intro _<;>conv=>whnf))
 ·exact RetK.int (q4f (p:=fun s=>v==s) (by omega) (by assumption) h3 h4).symm
 ·exact ⟨j+1,⟨by omega,by rw [<- h3,LG (p:=fun s=>v==s) (by omega) (by assumption)],by rw [h4,w0i (p:=fun s=>v==s) (by omega) (by assumption)];omega⟩,by omega,Le.of_eq rfl⟩
 ·exact RetK.int (by rw [x1f];rw [<- h3,GX (by omega)])
theorem QZ (l:List Str) (v:Str):SpecP Tryz.prog 106 [eStrs l,.str v] (fun r=>r = .bool (l.any fun s=>v==s)):=by
 refine sB VB Tryz.func106 rfl Tryz.call106 ?_;conv=>whnf
 repeat' (refine cP (ZR _ _) ?_;conv=>whnf)
 exact RetK.bool q1g
def WI (l:List Str):Bool:=(List.range l.length).any fun i=>(l.take i).any fun s=>l[i]?.getD []==s
theorem NJ (l:List Str):SpecP Tryz.prog 225 [eStrs l] (fun r=>r = .bool (WI l)):=by
 refine sB x3b Tryz.func225 rfl Tryz.call225 ?_;conv=>whnf
 refine iM fun _=>?_;have hl:(l.map AV.str).length=l.length:=length_map _;conv=>whnf
 refine LoopK.inv QY (fun j:Nat=>⟨[(0,.p (eStrs l)),(5,.p (eStrs l)),(6,.p (.int .i64 (l.map AV.str).length)),(7,.p (.int .i64 j))],[]⟩) (fun j=>j<=l.length∧((List.range l.length).drop j).any (fun i=>(l.take i).any fun s=>l[i]?.getD []==s)=WI l) (fun j=>l.length-j) 0 (Le.of_eq rfl) ⟨zero_le _,rfl⟩ ?_;rintro j ⟨h2,h3⟩;conv=>whnf
 repeat' (first|((first|(refine iA fun _=>?_)|refine wI ?_|refine And.intro (fun e he=>by obtain ⟨x,_,rfl⟩:=List.mem_map.1 he;rfl) (SlK.mk 0 j rfl rfl (by omega) (by omega) ?_)|(refine CallK.pure (QZ (l.take j) (l[j]'(by omega))) (.cons (Sub.of_eq (by simp [eStrs,List.map_take])) (.cons (Sub.refl _) .nil)) ?_;rintro _ rfl));conv=>whnf)|(apply bD<;>intro _<;>first|omega|conv=>whnf)|(apply bB<;>intro _<;>conv=>whnf))
 all_goals try have hr:(List.range l.length)[j]'(by simp;omega)=j:=by simp
 all_goals try have e:l[j]?.getD []=l[j]'(by omega):=by rw [List.getElem?_eq_getElem (by omega)];rfl
 ·exact RetK.tt (by rw [<- h3,q1t (p:=fun i=>(l.take i).any fun s=>l[i]?.getD []==s) (by simp;omega) (by rw [hr,e];assumption)])
 ·exact ⟨j+1,⟨by omega,by rw [<- h3,LG (p:=fun i=>(l.take i).any fun s=>l[i]?.getD []==s) (by simp;omega) (by rw [hr,e];assumption)]⟩,by omega,Le.of_eq rfl⟩
 ·exact RetK.ff (by rw [<- h3,GX (by simp;omega)])
def x9d (f:Pr):List Str:=f.params.map Param.name++f.vars
theorem z9v (f:Pr) (h1:f.params.length<=1000) (h2:f.vars.length<=1000):SpecP Tryz.prog 226 [.agg f.cells] (fun r=>r=eStrs (x9d f)):=by
 refine sB x7a Tryz.func226 rfl Tryz.call226 ?_;conv=>whnf
 refine iM fun _=>?_;have hl:(f.params.map fun a=>AV.agg a.cells).length=f.params.length:=length_map _;conv=>whnf
 refine LoopK.inv QY (fun j:Nat=>⟨[(1,.p (.ip f.cells)),(3,.hd 0 0 j),(7,.p (.sl (f.params.map fun a=>AV.agg a.cells))),(8,.p (.int .i64 (f.params.map fun a=>AV.agg a.cells).length)),(9,.p (.int .i64 j))],[(0,.own 9 1 ((f.params.take j).map fun a=>AV.str a.name))]⟩) (fun j=>j<=f.params.length) (fun j=>f.params.length-j) 0
  (Le.mk [(0,.own 9 1 [])] (by simp [Chunk.new0];rfl) (by simp) (by simp) (.cons (.refl _) (.cons (.nil List.mem_cons_self) (.cons (.refl _) (.cons (.refl _) (.cons (.refl _) .nil))))) (.new List.mem_cons_self .nil)) (zero_le _) ?_
 intro j h3;conv=>whnf
 repeat' (first|((first|refine And.intro rfl ?_|refine aD ?_|refine bP ?_|(refine iA fun _=>?_)|refine wI ?_|refine AppK.mk (by simp;omega) rfl (by show (j+1)*16<=140737488355328;omega) (by show j+1<=9223372036854775807;omega) (fun x hx=>by rcases List.mem_singleton.1 hx with rfl;exact ⟨rfl,rfl⟩) ?_|refine AppK.mk (by simp;omega) rfl (by rw [length_map];show (j+f.vars.length)*16<=140737488355328;omega) (by rw [length_map];show j+f.vars.length<=9223372036854775807;omega) (fun x hx=>by obtain ⟨y,_,rfl⟩:=List.mem_map.1 hx;exact ⟨rfl,rfl⟩) ?_);conv=>whnf)|(apply bD<;>intro _<;>first|omega|conv=>whnf))
 ·exact ⟨j+1,by omega,by omega,Le.of_eq (by rw [w2a (by omega)];rfl)⟩
 ·refine ⟨_,.hd rfl (by simp;omega),?_⟩;rw [List.take_of_length_le (by omega)];simp [eStrs,x9d]
mutual
def ZB:S->Nat
 | .mk _ _ _ _ _ _ _ _ thn els=>1+cntL thn+cntL els
def cntL:List S->Nat
 | []=>0
 | s::r=>ZB s+cntL r
end
theorem ZA (s:S):ZB s=1+cntL s.thn+cntL s.els:=by
 cases s;rw [ZB];rfl
theorem MC {l:List S} {j:Nat} (hj:j<l.length):cntL (l.drop j)=ZB l[j]+cntL (l.drop (j+1)):=by
 rw [QG hj,cntL]
theorem z1e {l:List S} {j:Nat} (hj:l.length<=j):cntL (l.drop j)=0:=by
 rw [drop_eq_nil_of_le hj,cntL]
theorem z6e : ∀ (n:Nat) (_:n<=100000) (s:S) (_:ZB s<=n),SpecP Tryz.prog 263 [.agg s.cells] (fun r=>r = .int .i64 (ZB s)):=by
 intro n;induction n with
 | zero=>intro _ s h;rw [ZA] at h;omega
 | succ n ih =>
   intro hn s h;have hs:=ZA s;have hl1:=S.avs_len s.thn;have hl2:=S.avs_len s.els;refine sB x7m Tryz.func263 rfl Tryz.call263 ?_;conv=>whnf
   repeat' (refine iM fun _=>?_;conv=>whnf)
   refine LoopK.inv QY (fun i:Nat×Nat=>⟨[(1,.p (.ip s.cells)),(3,.p (.int .i64 i.2)),(9,.p (eSs s.thn)),(10,.p (.int .i64 (S.avs s.thn).length)),(11,.p (.int .i64 i.1))],[]⟩) (fun i=>i.1<=s.thn.length∧1<=i.2∧i.2+cntL (s.thn.drop i.1)=1+cntL s.thn) (fun i=>s.thn.length-i.1) (0,1) (Le.of_eq rfl) ⟨zero_le _,Nat.le_refl _,rfl⟩ ?_;rintro ⟨j,a⟩ ⟨h2,h4,h3⟩;simp only at h2 h3 h4 ⊢;have hst : ∀ hj:j<s.thn.length,cntL (s.thn.drop j)=ZB s.thn[j]+cntL (s.thn.drop (j+1)):=fun hj=>MC hj;conv=>whnf
   repeat' (first|((first|(refine iM fun _=>?_)|refine And.intro rfl ?_|refine QX (by omega) ?_|refine wI ?_|(refine CallK.pure (ih (by omega) (s.thn[j]'(by omega)) (by have:=hst (by omega);omega)) (.cons (Sub.refl _) .nil) ?_;rintro _ rfl;have hst:=hst (by omega)));conv=>whnf)|(apply bD<;>intro _<;>first|omega|conv=>whnf))
   ·exact ⟨(j+1,a+ZB s.thn[j]),⟨by simp only;omega,by simp only;omega,by simp only;omega⟩,by simp only;omega,Le.of_eq rfl⟩
   ·have ha:a=1+cntL s.thn:=by rw [z1e (by omega)] at h3;omega
    refine LoopK.inv QY (fun i:Nat×Nat=>⟨[(3,.p (.int .i64 i.2)),(21,.p (eSs s.els)),(22,.p (.int .i64 (S.avs s.els).length)),(23,.p (.int .i64 i.1))],[]⟩) (fun i=>i.1<=s.els.length∧1<=i.2∧i.2+cntL (s.els.drop i.1)=ZB s) (fun i=>s.els.length-i.1) (0,a) (Le.of_eq rfl) ⟨zero_le _,h4,by simp only [List.drop_zero];omega⟩ ?_;rintro ⟨k,b⟩ ⟨h5,h6,h7⟩;simp only at h5 h6 h7 ⊢;have hst2 : ∀ hk:k<s.els.length,cntL (s.els.drop k)=ZB s.els[k]+cntL (s.els.drop (k+1)):=fun hk=>MC hk;conv=>whnf
    repeat' (first|((first|refine And.intro rfl ?_|refine QX (by omega) ?_|refine wI ?_|(refine CallK.pure (ih (by omega) (s.els[k]'(by omega)) (by have:=hst2 (by omega);omega)) (.cons (Sub.refl _) .nil) ?_;rintro _ rfl;have hst2:=hst2 (by omega)));conv=>whnf)|(apply bD<;>intro _<;>first|omega|conv=>whnf))
    ·exact ⟨(k+1,b+ZB s.els[k]),⟨by simp only;omega,by simp only;omega,by simp only;omega⟩,by simp only;omega,Le.of_eq rfl⟩
    ·exact RetK.int (by rw [z1e (by omega)] at h7;omega)
structure Item where
 s:S
 proc:Int
 up:Int
 next:Int
 loop:Int
def Item.cells (i:Item):List AV:=i.s.cells++[.int .i64 i.proc,.int .i64 i.up,.int .i64 i.next,.int .i64 i.loop]
mutual
def q4v (proc up nx loop:Int) (acc:List Item):S->List Item
 | .mk id kind labels name pr x has args thn els =>
   XH proc (acc.length+1) (if kind=6 then acc.length+1 else nx) (if kind=6 then acc.length+1 else loop)
    (XH proc (acc.length+1) (if kind=6 then acc.length+1 else nx) (if kind=6 then acc.length+1 else loop) (acc++[⟨.mk id kind labels name pr x has args thn els,proc,up,nx,loop⟩]) thn) els
def XH (proc up nx loop:Int) (acc:List Item):List S->List Item
 | []=>acc
 | t::r=>XH proc up nx loop (q4v proc up (if r.isEmpty then nx else acc.length+1+ZB t) loop acc t) r
end
theorem FI (proc up nx loop:Int) (acc:List Item) (t:S):q4v proc up nx loop acc t=XH proc (acc.length+1) (if t.kind=6 then acc.length+1 else nx) (if t.kind=6 then acc.length+1 else loop)
   (XH proc (acc.length+1) (if t.kind=6 then acc.length+1 else nx) (if t.kind=6 then acc.length+1 else loop) (acc++[⟨t,proc,up,nx,loop⟩]) t.thn) t.els:=by
 cases t;rw [q4v];rfl
mutual
theorem XE (proc up nx loop:Int) (acc:List Item) : ∀ t:S,(q4v proc up nx loop acc t).length=acc.length+ZB t
 | .mk id kind labels name pr x has args thn els=>by
   rw [q4v,ZB,XW _ _ _ _ _ els,XW _ _ _ _ _ thn];simp;omega
theorem XW (proc up nx loop:Int) (acc:List Item) : ∀ l:List S,(XH proc up nx loop acc l).length=acc.length+cntL l
 | []=>by rw [XH,cntL];rfl
 | t::r=>by
   rw [XH,cntL,XW _ _ _ _ _ r,XE _ _ _ _ _ t];omega
end
theorem WS {proc up nx loop:Int} {acc:List Item} {l:List S} {j:Nat} (hj:j<l.length) :
  XH proc up nx loop acc (l.drop j)=XH proc up nx loop (q4v proc up (if j+1<l.length then acc.length+1+ZB l[j] else nx) loop acc l[j]) (l.drop (j+1)):=by
 rw [QG hj,XH];congr 2;by_cases h:j+1<l.length
 ·rw [if_pos h,if_neg];simp only [List.isEmpty_iff];intro he;have:=congrArg List.length he;simp at this;omega
 ·rw [if_neg h,if_pos];rw [drop_eq_nil_of_le (by omega)];rfl
def z7r (tS tI tN:Nat) (gl pr:AV) (L:List Item) (lo hi:List Int):Heap :=
 [(1000,.obj tS [.p gl,.p pr,.hd 2000 0 L.length,.hd 2001 0 lo.length,.hd 2002 0 hi.length]),(2000,.own tI 17 (L.map fun i => .agg i.cells)),(2001,.own tN 1 (lo.map (.int .i64))),(2002,.own tN 1 (hi.map (.int .i64)))]
def X0:X := .mk 0 0 [] []
def S0:S := .mk 0 0 [] [] [] X0 false [] [] []
theorem LSub.agg {cs ds:List AV} (h:SubL cs ds):LSub (.p (.agg cs)) (.p (.agg ds)) := .p (Sub.agg h)
theorem z0a : ∀ (n:Nat) (_:n<=1000) (l:List S) (_:cntL l<n) (acc:List Item) (_:acc.length+cntL l<=1000) (a:Item) (gl pr:AV) (lo hi:List Int),
  SpecH Tryz.prog 174 [.ptr 1000 0,.p (eSs l),.p (.agg a.cells)] (z7r 181 177 3 gl pr acc lo hi)
   (fun r H=>r = .p (.tup [])∧H=z7r 181 177 3 gl pr (XH a.proc a.up a.next a.loop acc l) lo hi):=by
 intro n;induction n with
 | zero=>intro _ l h;omega
 | succ n ih =>
   intro hn l hl acc hacc a gl pr lo hi;have hl1:=S.avs_len l;refine sH q3y Tryz.func174 rfl Tryz.call174 ?_;conv=>whnf
   repeat' (refine iM fun _=>?_;conv=>whnf)
   refine LoopK.inv QY (fun i:Nat×List Item=>⟨[(0,.ptr 1000 0),(1,.p (eSs l)),(5,.p (.ip a.cells)),(11,.p (eSs l)),(12,.p (.int .i64 (S.avs l).length)),(13,.p (.int .i64 i.1))],z7r 181 177 3 gl pr i.2 lo hi⟩) (fun i=>i.1<=l.length∧acc.length<=i.2.length∧i.2.length+cntL (l.drop i.1)=acc.length+cntL l∧XH a.proc a.up a.next a.loop i.2 (l.drop i.1)=XH a.proc a.up a.next a.loop acc l) (fun i=>l.length-i.1) (0,acc) (Le.of_eq rfl) ⟨zero_le _,Nat.le_refl _,rfl,rfl⟩ ?_;rintro ⟨j,b⟩ ⟨h2,h5,h3,h4⟩;simp only at h2 h3 h4 h5 ⊢;have hst : ∀ hj:j<l.length,cntL (l.drop j)=ZB l[j]+cntL (l.drop (j+1)):=fun hj=>MC hj;conv=>whnf
   repeat' (first|((first|(refine iM fun _=>?_)|refine dA ?_|refine And.intro rfl ?_|refine aD ?_|refine bP ?_|refine QX (by omega) ?_|refine wI ?_|(refine CallK.pure (z6e 1000 (by omega) (l[j]'(by omega)) (by have:=hst (by omega);omega)) (.cons (Sub.refl _) .nil) ?_;rintro _ rfl)|refine Wr.i64 (by have:=hst (by omega);omega) (by have:=hst (by omega);omega) ?_|refine AppK.mk (by simp) rfl (by show (b.length+1)*240<=140737488355328;have:=hst (by omega);omega) (by show b.length+1<=9223372036854775807;have:=hst (by omega);omega) (fun x hx=>by rcases List.mem_singleton.1 hx with rfl;exact ⟨rfl,rfl⟩) ?_);conv=>whnf)|(apply bD<;>intro _<;>first|omega|conv=>whnf)|(refine And.intro ?_ ?_<;>conv=>whnf))
   ·have hj:j<l.length:=by omega
    have hst:=hst hj;have hcs:=ZA l[j];refine CallK.heap [(1000,1000),(2000,2000),(2001,2001),(2002,2002)] 0 (by refine ArgsH.cons (LSub.refl _) (ArgsH.cons (LSub.refl _) (ArgsH.cons (LSub.agg ?_) ArgsH.nil));repeat' (first|exact SubL.nil|refine SubL.cons ?_ ?_|exact Sub.refl _|exact Sub.nils|exact Sub.ff rfl)) (by exact BlksH.cons (j:=1000) rfl rfl (CSub.of_eq (by rw [length_append];first|done|rfl)) (BlksH.cons (j:=2000) rfl rfl (CSub.of_eq (by rw [List.map_append];first|done|rfl)) (BlksH.cons (j:=2001) rfl rfl (CSub.refl _) (BlksH.cons (j:=2002) rfl rfl (CSub.refl _) BlksH.nil)))) (ih (by omega) l[j].thn (by omega) (b++[⟨l[j]'hj,a.proc,a.up,(b.length+1+ZB (l[j]'hj):Int),a.loop⟩]) (by rw [length_append];simp only [length_singleton];omega) ⟨S0,a.proc,b.length+1,(b.length+1:Int),(b.length+1:Int)⟩ gl pr lo hi) rfl rfl ?_;rintro l' H' ⟨rfl,rfl⟩;conv=>whnf
    refine CallK.heap [(1000,1000),(2000,2000),(2001,2001),(2002,2002)] 0 (by refine ArgsH.cons (LSub.refl _) (ArgsH.cons (LSub.refl _) (ArgsH.cons (LSub.agg ?_) ArgsH.nil));repeat' (first|exact SubL.nil|refine SubL.cons ?_ ?_|exact Sub.refl _|exact Sub.nils|exact Sub.ff rfl)) (by exact BlksH.cons (j:=1000) rfl rfl (CSub.refl _) (BlksH.cons (j:=2000) rfl rfl (CSub.refl _) (BlksH.cons (j:=2001) rfl rfl (CSub.refl _) (BlksH.cons (j:=2002) rfl rfl (CSub.refl _) BlksH.nil)))) (ih (by omega) l[j].els (by omega) (XH a.proc (b.length+1) (b.length+1:Int) (b.length+1:Int) (b++[⟨l[j]'hj,a.proc,a.up,(b.length+1+ZB (l[j]'hj):Int),a.loop⟩]) (l[j]'hj).thn) (by rw [XW,length_append];simp only [length_singleton];omega) ⟨S0,a.proc,b.length+1,(b.length+1:Int),(b.length+1:Int)⟩ gl pr lo hi) rfl rfl ?_;rintro l' H' ⟨rfl,rfl⟩;conv=>whnf
    refine wI ?_;conv=>whnf
    have hrow:q4v a.proc a.up (b.length+1+ZB (l[j]'hj):Int) a.loop b l[j]=XH a.proc (b.length+1) (b.length+1:Int) (b.length+1:Int) (XH a.proc (b.length+1) (b.length+1:Int) (b.length+1:Int) (b++[⟨l[j]'hj,a.proc,a.up,(b.length+1+ZB (l[j]'hj):Int),a.loop⟩]) (l[j]'hj).thn) l[j].els:=by
     rw [FI,if_pos (by assumption),if_pos (by assumption)]
    exact ⟨(j+1,q4v a.proc a.up (b.length+1+ZB (l[j]'hj):Int) a.loop b l[j]),⟨by simp only;omega,by simp only;rw [XE];omega,by simp only;rw [XE];omega,by simp only;rw [<- h4,WS hj,if_pos (by omega)]⟩,by simp only;omega,Le.of_eq (by simp only;rw [hrow];rfl)⟩
   ·have hj:j<l.length:=by omega
    have hst:=hst hj;have hcs:=ZA l[j];refine CallK.heap [(1000,1000),(2000,2000),(2001,2001),(2002,2002)] 0 (by refine ArgsH.cons (LSub.refl _) (ArgsH.cons (LSub.refl _) (ArgsH.cons (LSub.agg ?_) ArgsH.nil));repeat' (first|exact SubL.nil|refine SubL.cons ?_ ?_|exact Sub.refl _|exact Sub.nils|exact Sub.ff rfl)) (by exact BlksH.cons (j:=1000) rfl rfl (CSub.of_eq (by rw [length_append];first|done|rfl)) (BlksH.cons (j:=2000) rfl rfl (CSub.of_eq (by rw [List.map_append];first|done|rfl)) (BlksH.cons (j:=2001) rfl rfl (CSub.refl _) (BlksH.cons (j:=2002) rfl rfl (CSub.refl _) BlksH.nil)))) (ih (by omega) l[j].thn (by omega) (b++[⟨l[j]'hj,a.proc,a.up,(b.length+1+ZB (l[j]'hj):Int),a.loop⟩]) (by rw [length_append];simp only [length_singleton];omega) ⟨S0,a.proc,b.length+1,(b.length+1+ZB (l[j]'hj):Int),a.loop⟩ gl pr lo hi) rfl rfl ?_;rintro l' H' ⟨rfl,rfl⟩;conv=>whnf
    refine CallK.heap [(1000,1000),(2000,2000),(2001,2001),(2002,2002)] 0 (by refine ArgsH.cons (LSub.refl _) (ArgsH.cons (LSub.refl _) (ArgsH.cons (LSub.agg ?_) ArgsH.nil));repeat' (first|exact SubL.nil|refine SubL.cons ?_ ?_|exact Sub.refl _|exact Sub.nils|exact Sub.ff rfl)) (by exact BlksH.cons (j:=1000) rfl rfl (CSub.refl _) (BlksH.cons (j:=2000) rfl rfl (CSub.refl _) (BlksH.cons (j:=2001) rfl rfl (CSub.refl _) (BlksH.cons (j:=2002) rfl rfl (CSub.refl _) BlksH.nil)))) (ih (by omega) l[j].els (by omega) (XH a.proc (b.length+1) (b.length+1+ZB (l[j]'hj):Int) a.loop (b++[⟨l[j]'hj,a.proc,a.up,(b.length+1+ZB (l[j]'hj):Int),a.loop⟩]) (l[j]'hj).thn) (by rw [XW,length_append];simp only [length_singleton];omega) ⟨S0,a.proc,b.length+1,(b.length+1+ZB (l[j]'hj):Int),a.loop⟩ gl pr lo hi) rfl rfl ?_;rintro l' H' ⟨rfl,rfl⟩;conv=>whnf
    refine wI ?_;conv=>whnf
    have hrow:q4v a.proc a.up (b.length+1+ZB (l[j]'hj):Int) a.loop b l[j]=XH a.proc (b.length+1) (b.length+1+ZB (l[j]'hj):Int) a.loop (XH a.proc (b.length+1) (b.length+1+ZB (l[j]'hj):Int) a.loop (b++[⟨l[j]'hj,a.proc,a.up,(b.length+1+ZB (l[j]'hj):Int),a.loop⟩]) (l[j]'hj).thn) l[j].els:=by
     rw [FI,if_neg (by assumption),if_neg (by assumption)]
    exact ⟨(j+1,q4v a.proc a.up (b.length+1+ZB (l[j]'hj):Int) a.loop b l[j]),⟨by simp only;omega,by simp only;rw [XE];omega,by simp only;rw [XE];omega,by simp only;rw [<- h4,WS hj,if_pos (by omega)]⟩,by simp only;omega,Le.of_eq (by simp only;rw [hrow];rfl)⟩
   ·have hj:j<l.length:=by omega
    have hst:=hst hj;have hcs:=ZA l[j];refine CallK.heap [(1000,1000),(2000,2000),(2001,2001),(2002,2002)] 0 (by refine ArgsH.cons (LSub.refl _) (ArgsH.cons (LSub.refl _) (ArgsH.cons (LSub.agg ?_) ArgsH.nil));repeat' (first|exact SubL.nil|refine SubL.cons ?_ ?_|exact Sub.refl _|exact Sub.nils|exact Sub.ff rfl)) (by exact BlksH.cons (j:=1000) rfl rfl (CSub.of_eq (by rw [length_append];first|done|rfl)) (BlksH.cons (j:=2000) rfl rfl (CSub.of_eq (by rw [List.map_append];first|done|rfl)) (BlksH.cons (j:=2001) rfl rfl (CSub.refl _) (BlksH.cons (j:=2002) rfl rfl (CSub.refl _) BlksH.nil)))) (ih (by omega) l[j].thn (by omega) (b++[⟨l[j]'hj,a.proc,a.up,(b.length+1+ZB (l[j]'hj):Int),a.loop⟩]) (by rw [length_append];simp only [length_singleton];omega) ⟨S0,a.proc,b.length+1,(b.length+1:Int),(b.length+1:Int)⟩ gl pr lo hi) rfl rfl ?_;rintro l' H' ⟨rfl,rfl⟩;conv=>whnf
    refine CallK.heap [(1000,1000),(2000,2000),(2001,2001),(2002,2002)] 0 (by refine ArgsH.cons (LSub.refl _) (ArgsH.cons (LSub.refl _) (ArgsH.cons (LSub.agg ?_) ArgsH.nil));repeat' (first|exact SubL.nil|refine SubL.cons ?_ ?_|exact Sub.refl _|exact Sub.nils|exact Sub.ff rfl)) (by exact BlksH.cons (j:=1000) rfl rfl (CSub.refl _) (BlksH.cons (j:=2000) rfl rfl (CSub.refl _) (BlksH.cons (j:=2001) rfl rfl (CSub.refl _) (BlksH.cons (j:=2002) rfl rfl (CSub.refl _) BlksH.nil)))) (ih (by omega) l[j].els (by omega) (XH a.proc (b.length+1) (b.length+1:Int) (b.length+1:Int) (b++[⟨l[j]'hj,a.proc,a.up,(b.length+1+ZB (l[j]'hj):Int),a.loop⟩]) (l[j]'hj).thn) (by rw [XW,length_append];simp only [length_singleton];omega) ⟨S0,a.proc,b.length+1,(b.length+1:Int),(b.length+1:Int)⟩ gl pr lo hi) rfl rfl ?_;rintro l' H' ⟨rfl,rfl⟩;conv=>whnf
    refine wI ?_;conv=>whnf
    have hrow:q4v a.proc a.up (b.length+1+ZB (l[j]'hj):Int) a.loop b l[j]=XH a.proc (b.length+1) (b.length+1:Int) (b.length+1:Int) (XH a.proc (b.length+1) (b.length+1:Int) (b.length+1:Int) (b++[⟨l[j]'hj,a.proc,a.up,(b.length+1+ZB (l[j]'hj):Int),a.loop⟩]) (l[j]'hj).thn) l[j].els:=by
     rw [FI,if_pos (by assumption),if_pos (by assumption)]
    exact ⟨(j+1,q4v a.proc a.up (b.length+1+ZB (l[j]'hj):Int) a.loop b l[j]),⟨by simp only;omega,by simp only;rw [XE];omega,by simp only;rw [XE];omega,by simp only;rw [<- h4,WS hj,if_pos (by omega)]⟩,by simp only;omega,Le.of_eq (by simp only;rw [hrow];rfl)⟩
   ·have hj:j<l.length:=by omega
    have hst:=hst hj;have hcs:=ZA l[j];refine CallK.heap [(1000,1000),(2000,2000),(2001,2001),(2002,2002)] 0 (by refine ArgsH.cons (LSub.refl _) (ArgsH.cons (LSub.refl _) (ArgsH.cons (LSub.agg ?_) ArgsH.nil));repeat' (first|exact SubL.nil|refine SubL.cons ?_ ?_|exact Sub.refl _|exact Sub.nils|exact Sub.ff rfl)) (by exact BlksH.cons (j:=1000) rfl rfl (CSub.of_eq (by rw [length_append];first|done|rfl)) (BlksH.cons (j:=2000) rfl rfl (CSub.of_eq (by rw [List.map_append];first|done|rfl)) (BlksH.cons (j:=2001) rfl rfl (CSub.refl _) (BlksH.cons (j:=2002) rfl rfl (CSub.refl _) BlksH.nil)))) (ih (by omega) l[j].thn (by omega) (b++[⟨l[j]'hj,a.proc,a.up,(b.length+1+ZB (l[j]'hj):Int),a.loop⟩]) (by rw [length_append];simp only [length_singleton];omega) ⟨S0,a.proc,b.length+1,(b.length+1+ZB (l[j]'hj):Int),a.loop⟩ gl pr lo hi) rfl rfl ?_;rintro l' H' ⟨rfl,rfl⟩;conv=>whnf
    refine CallK.heap [(1000,1000),(2000,2000),(2001,2001),(2002,2002)] 0 (by refine ArgsH.cons (LSub.refl _) (ArgsH.cons (LSub.refl _) (ArgsH.cons (LSub.agg ?_) ArgsH.nil));repeat' (first|exact SubL.nil|refine SubL.cons ?_ ?_|exact Sub.refl _|exact Sub.nils|exact Sub.ff rfl)) (by exact BlksH.cons (j:=1000) rfl rfl (CSub.refl _) (BlksH.cons (j:=2000) rfl rfl (CSub.refl _) (BlksH.cons (j:=2001) rfl rfl (CSub.refl _) (BlksH.cons (j:=2002) rfl rfl (CSub.refl _) BlksH.nil)))) (ih (by omega) l[j].els (by omega) (XH a.proc (b.length+1) (b.length+1+ZB (l[j]'hj):Int) a.loop (b++[⟨l[j]'hj,a.proc,a.up,(b.length+1+ZB (l[j]'hj):Int),a.loop⟩]) (l[j]'hj).thn) (by rw [XW,length_append];simp only [length_singleton];omega) ⟨S0,a.proc,b.length+1,(b.length+1+ZB (l[j]'hj):Int),a.loop⟩ gl pr lo hi) rfl rfl ?_;rintro l' H' ⟨rfl,rfl⟩;conv=>whnf
    refine wI ?_;conv=>whnf
    have hrow:q4v a.proc a.up (b.length+1+ZB (l[j]'hj):Int) a.loop b l[j]=XH a.proc (b.length+1) (b.length+1+ZB (l[j]'hj):Int) a.loop (XH a.proc (b.length+1) (b.length+1+ZB (l[j]'hj):Int) a.loop (b++[⟨l[j]'hj,a.proc,a.up,(b.length+1+ZB (l[j]'hj):Int),a.loop⟩]) (l[j]'hj).thn) l[j].els:=by
     rw [FI,if_neg (by assumption),if_neg (by assumption)]
    exact ⟨(j+1,q4v a.proc a.up (b.length+1+ZB (l[j]'hj):Int) a.loop b l[j]),⟨by simp only;omega,by simp only;rw [XE];omega,by simp only;rw [XE];omega,by simp only;rw [<- h4,WS hj,if_pos (by omega)]⟩,by simp only;omega,Le.of_eq (by simp only;rw [hrow];rfl)⟩
   ·have hj:j<l.length:=by omega
    have hst:=hst hj;have hcs:=ZA l[j];refine CallK.heap [(1000,1000),(2000,2000),(2001,2001),(2002,2002)] 0 (by refine ArgsH.cons (LSub.refl _) (ArgsH.cons (LSub.refl _) (ArgsH.cons (LSub.agg ?_) ArgsH.nil));repeat' (first|exact SubL.nil|refine SubL.cons ?_ ?_|exact Sub.refl _|exact Sub.nils|exact Sub.ff rfl)) (by exact BlksH.cons (j:=1000) rfl rfl (CSub.of_eq (by rw [length_append];first|done|rfl)) (BlksH.cons (j:=2000) rfl rfl (CSub.of_eq (by rw [List.map_append];first|done|rfl)) (BlksH.cons (j:=2001) rfl rfl (CSub.refl _) (BlksH.cons (j:=2002) rfl rfl (CSub.refl _) BlksH.nil)))) (ih (by omega) l[j].thn (by omega) (b++[⟨l[j]'hj,a.proc,a.up,a.next,a.loop⟩]) (by rw [length_append];simp only [length_singleton];omega) ⟨S0,a.proc,b.length+1,(b.length+1:Int),(b.length+1:Int)⟩ gl pr lo hi) rfl rfl ?_;rintro l' H' ⟨rfl,rfl⟩;conv=>whnf
    refine CallK.heap [(1000,1000),(2000,2000),(2001,2001),(2002,2002)] 0 (by refine ArgsH.cons (LSub.refl _) (ArgsH.cons (LSub.refl _) (ArgsH.cons (LSub.agg ?_) ArgsH.nil));repeat' (first|exact SubL.nil|refine SubL.cons ?_ ?_|exact Sub.refl _|exact Sub.nils|exact Sub.ff rfl)) (by exact BlksH.cons (j:=1000) rfl rfl (CSub.refl _) (BlksH.cons (j:=2000) rfl rfl (CSub.refl _) (BlksH.cons (j:=2001) rfl rfl (CSub.refl _) (BlksH.cons (j:=2002) rfl rfl (CSub.refl _) BlksH.nil)))) (ih (by omega) l[j].els (by omega) (XH a.proc (b.length+1) (b.length+1:Int) (b.length+1:Int) (b++[⟨l[j]'hj,a.proc,a.up,a.next,a.loop⟩]) (l[j]'hj).thn) (by rw [XW,length_append];simp only [length_singleton];omega) ⟨S0,a.proc,b.length+1,(b.length+1:Int),(b.length+1:Int)⟩ gl pr lo hi) rfl rfl ?_;rintro l' H' ⟨rfl,rfl⟩;conv=>whnf
    refine wI ?_;conv=>whnf
    have hrow:q4v a.proc a.up a.next a.loop b l[j]=XH a.proc (b.length+1) (b.length+1:Int) (b.length+1:Int) (XH a.proc (b.length+1) (b.length+1:Int) (b.length+1:Int) (b++[⟨l[j]'hj,a.proc,a.up,a.next,a.loop⟩]) (l[j]'hj).thn) l[j].els:=by
     rw [FI,if_pos (by assumption),if_pos (by assumption)]
    exact ⟨(j+1,q4v a.proc a.up a.next a.loop b l[j]),⟨by simp only;omega,by simp only;rw [XE];omega,by simp only;rw [XE];omega,by simp only;rw [<- h4,WS hj,if_neg (by omega)]⟩,by simp only;omega,Le.of_eq (by simp only;rw [hrow];rfl)⟩
   ·have hj:j<l.length:=by omega
    have hst:=hst hj;have hcs:=ZA l[j];refine CallK.heap [(1000,1000),(2000,2000),(2001,2001),(2002,2002)] 0 (by refine ArgsH.cons (LSub.refl _) (ArgsH.cons (LSub.refl _) (ArgsH.cons (LSub.agg ?_) ArgsH.nil));repeat' (first|exact SubL.nil|refine SubL.cons ?_ ?_|exact Sub.refl _|exact Sub.nils|exact Sub.ff rfl)) (by exact BlksH.cons (j:=1000) rfl rfl (CSub.of_eq (by rw [length_append];first|done|rfl)) (BlksH.cons (j:=2000) rfl rfl (CSub.of_eq (by rw [List.map_append];first|done|rfl)) (BlksH.cons (j:=2001) rfl rfl (CSub.refl _) (BlksH.cons (j:=2002) rfl rfl (CSub.refl _) BlksH.nil)))) (ih (by omega) l[j].thn (by omega) (b++[⟨l[j]'hj,a.proc,a.up,a.next,a.loop⟩]) (by rw [length_append];simp only [length_singleton];omega) ⟨S0,a.proc,b.length+1,a.next,a.loop⟩ gl pr lo hi) rfl rfl ?_;rintro l' H' ⟨rfl,rfl⟩;conv=>whnf
    refine CallK.heap [(1000,1000),(2000,2000),(2001,2001),(2002,2002)] 0 (by refine ArgsH.cons (LSub.refl _) (ArgsH.cons (LSub.refl _) (ArgsH.cons (LSub.agg ?_) ArgsH.nil));repeat' (first|exact SubL.nil|refine SubL.cons ?_ ?_|exact Sub.refl _|exact Sub.nils|exact Sub.ff rfl)) (by exact BlksH.cons (j:=1000) rfl rfl (CSub.refl _) (BlksH.cons (j:=2000) rfl rfl (CSub.refl _) (BlksH.cons (j:=2001) rfl rfl (CSub.refl _) (BlksH.cons (j:=2002) rfl rfl (CSub.refl _) BlksH.nil)))) (ih (by omega) l[j].els (by omega) (XH a.proc (b.length+1) a.next a.loop (b++[⟨l[j]'hj,a.proc,a.up,a.next,a.loop⟩]) (l[j]'hj).thn) (by rw [XW,length_append];simp only [length_singleton];omega) ⟨S0,a.proc,b.length+1,a.next,a.loop⟩ gl pr lo hi) rfl rfl ?_;rintro l' H' ⟨rfl,rfl⟩;conv=>whnf
    refine wI ?_;conv=>whnf
    have hrow:q4v a.proc a.up a.next a.loop b l[j]=XH a.proc (b.length+1) a.next a.loop (XH a.proc (b.length+1) a.next a.loop (b++[⟨l[j]'hj,a.proc,a.up,a.next,a.loop⟩]) (l[j]'hj).thn) l[j].els:=by
     rw [FI,if_neg (by assumption),if_neg (by assumption)]
    exact ⟨(j+1,q4v a.proc a.up a.next a.loop b l[j]),⟨by simp only;omega,by simp only;rw [XE];omega,by simp only;rw [XE];omega,by simp only;rw [<- h4,WS hj,if_neg (by omega)]⟩,by simp only;omega,Le.of_eq (by simp only;rw [hrow];rfl)⟩
   ·have hj:j<l.length:=by omega
    have hst:=hst hj;have hcs:=ZA l[j];refine CallK.heap [(1000,1000),(2000,2000),(2001,2001),(2002,2002)] 0 (by refine ArgsH.cons (LSub.refl _) (ArgsH.cons (LSub.refl _) (ArgsH.cons (LSub.agg ?_) ArgsH.nil));repeat' (first|exact SubL.nil|refine SubL.cons ?_ ?_|exact Sub.refl _|exact Sub.nils|exact Sub.ff rfl)) (by exact BlksH.cons (j:=1000) rfl rfl (CSub.of_eq (by rw [length_append];first|done|rfl)) (BlksH.cons (j:=2000) rfl rfl (CSub.of_eq (by rw [List.map_append];first|done|rfl)) (BlksH.cons (j:=2001) rfl rfl (CSub.refl _) (BlksH.cons (j:=2002) rfl rfl (CSub.refl _) BlksH.nil)))) (ih (by omega) l[j].thn (by omega) (b++[⟨l[j]'hj,a.proc,a.up,a.next,a.loop⟩]) (by rw [length_append];simp only [length_singleton];omega) ⟨S0,a.proc,b.length+1,(b.length+1:Int),(b.length+1:Int)⟩ gl pr lo hi) rfl rfl ?_;rintro l' H' ⟨rfl,rfl⟩;conv=>whnf
    refine CallK.heap [(1000,1000),(2000,2000),(2001,2001),(2002,2002)] 0 (by refine ArgsH.cons (LSub.refl _) (ArgsH.cons (LSub.refl _) (ArgsH.cons (LSub.agg ?_) ArgsH.nil));repeat' (first|exact SubL.nil|refine SubL.cons ?_ ?_|exact Sub.refl _|exact Sub.nils|exact Sub.ff rfl)) (by exact BlksH.cons (j:=1000) rfl rfl (CSub.refl _) (BlksH.cons (j:=2000) rfl rfl (CSub.refl _) (BlksH.cons (j:=2001) rfl rfl (CSub.refl _) (BlksH.cons (j:=2002) rfl rfl (CSub.refl _) BlksH.nil)))) (ih (by omega) l[j].els (by omega) (XH a.proc (b.length+1) (b.length+1:Int) (b.length+1:Int) (b++[⟨l[j]'hj,a.proc,a.up,a.next,a.loop⟩]) (l[j]'hj).thn) (by rw [XW,length_append];simp only [length_singleton];omega) ⟨S0,a.proc,b.length+1,(b.length+1:Int),(b.length+1:Int)⟩ gl pr lo hi) rfl rfl ?_;rintro l' H' ⟨rfl,rfl⟩;conv=>whnf
    refine wI ?_;conv=>whnf
    have hrow:q4v a.proc a.up a.next a.loop b l[j]=XH a.proc (b.length+1) (b.length+1:Int) (b.length+1:Int) (XH a.proc (b.length+1) (b.length+1:Int) (b.length+1:Int) (b++[⟨l[j]'hj,a.proc,a.up,a.next,a.loop⟩]) (l[j]'hj).thn) l[j].els:=by
     rw [FI,if_pos (by assumption),if_pos (by assumption)]
    exact ⟨(j+1,q4v a.proc a.up a.next a.loop b l[j]),⟨by simp only;omega,by simp only;rw [XE];omega,by simp only;rw [XE];omega,by simp only;rw [<- h4,WS hj,if_neg (by omega)]⟩,by simp only;omega,Le.of_eq (by simp only;rw [hrow];rfl)⟩
   ·have hj:j<l.length:=by omega
    have hst:=hst hj;have hcs:=ZA l[j];refine CallK.heap [(1000,1000),(2000,2000),(2001,2001),(2002,2002)] 0 (by refine ArgsH.cons (LSub.refl _) (ArgsH.cons (LSub.refl _) (ArgsH.cons (LSub.agg ?_) ArgsH.nil));repeat' (first|exact SubL.nil|refine SubL.cons ?_ ?_|exact Sub.refl _|exact Sub.nils|exact Sub.ff rfl)) (by exact BlksH.cons (j:=1000) rfl rfl (CSub.of_eq (by rw [length_append];first|done|rfl)) (BlksH.cons (j:=2000) rfl rfl (CSub.of_eq (by rw [List.map_append];first|done|rfl)) (BlksH.cons (j:=2001) rfl rfl (CSub.refl _) (BlksH.cons (j:=2002) rfl rfl (CSub.refl _) BlksH.nil)))) (ih (by omega) l[j].thn (by omega) (b++[⟨l[j]'hj,a.proc,a.up,a.next,a.loop⟩]) (by rw [length_append];simp only [length_singleton];omega) ⟨S0,a.proc,b.length+1,a.next,a.loop⟩ gl pr lo hi) rfl rfl ?_;rintro l' H' ⟨rfl,rfl⟩;conv=>whnf
    refine CallK.heap [(1000,1000),(2000,2000),(2001,2001),(2002,2002)] 0 (by refine ArgsH.cons (LSub.refl _) (ArgsH.cons (LSub.refl _) (ArgsH.cons (LSub.agg ?_) ArgsH.nil));repeat' (first|exact SubL.nil|refine SubL.cons ?_ ?_|exact Sub.refl _|exact Sub.nils|exact Sub.ff rfl)) (by exact BlksH.cons (j:=1000) rfl rfl (CSub.refl _) (BlksH.cons (j:=2000) rfl rfl (CSub.refl _) (BlksH.cons (j:=2001) rfl rfl (CSub.refl _) (BlksH.cons (j:=2002) rfl rfl (CSub.refl _) BlksH.nil)))) (ih (by omega) l[j].els (by omega) (XH a.proc (b.length+1) a.next a.loop (b++[⟨l[j]'hj,a.proc,a.up,a.next,a.loop⟩]) (l[j]'hj).thn) (by rw [XW,length_append];simp only [length_singleton];omega) ⟨S0,a.proc,b.length+1,a.next,a.loop⟩ gl pr lo hi) rfl rfl ?_;rintro l' H' ⟨rfl,rfl⟩;conv=>whnf
    refine wI ?_;conv=>whnf
    have hrow:q4v a.proc a.up a.next a.loop b l[j]=XH a.proc (b.length+1) a.next a.loop (XH a.proc (b.length+1) a.next a.loop (b++[⟨l[j]'hj,a.proc,a.up,a.next,a.loop⟩]) (l[j]'hj).thn) l[j].els:=by
     rw [FI,if_neg (by assumption),if_neg (by assumption)]
    exact ⟨(j+1,q4v a.proc a.up a.next a.loop b l[j]),⟨by simp only;omega,by simp only;rw [XE];omega,by simp only;rw [XE];omega,by simp only;rw [<- h4,WS hj,if_neg (by omega)]⟩,by simp only;omega,Le.of_eq (by simp only;rw [hrow];rfl)⟩
   ·refine ⟨_,.refl _,rfl,?_⟩;rw [drop_eq_nil_of_le (by omega),XH] at h4;rw [<- h4];rfl
end Go.Ab
