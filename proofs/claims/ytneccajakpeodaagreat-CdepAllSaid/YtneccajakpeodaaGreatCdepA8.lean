/- What a program that came in reads as: the data of the statements, as they lie in the memory that was there. Conditions: none. -/
import Derived.Deep.Slices
import Derived.Test.YtneccajakpeodaaGreatCdepA7
set_option linter.unusedSimpArgs false
set_option linter.unusedVariables false
set_option maxRecDepth 100000
set_option maxHeartbeats 16000000
namespace Go.Ab
open Go.Proofs Go.ChangeShapes
def UB (w:World):Mem:=fun b=>match w.heap[b]? with
 | some (.cells c _ _)=>some c
 | _=>none
theorem z3w (w:World):(UB w).lies w:=by
 intro b c h
 unfold UB at h
 split at h
 ·rename_i c' e fr hh
  cases h
  exact ⟨e,fr,hh⟩
 ·cases h
theorem z5x {w:World} {a:Addr} {v:Value} (h:w.cell? a=some v):a.spot=none ∧ ∃ cells,UB w a.block=some cells∧cells[a.off]? = some v:=by
 refine ⟨World.cell?_spot h,?_⟩
 unfold World.cell? at h
 split at h
 ·rename_i c e fr hh
  split at h
  ·cases h
  ·exact ⟨c,by unfold UB;rw [hh],h⟩
 ·cases h
def RepCs (σ:Mem) (avs:List AV) (cs:List Value):Prop:=cs.length=avs.length ∧ ∀ (j:Nat) (c:AV),avs[j]? = some c → ∃ u,cs[j]? = some u∧Rep σ c u
theorem RepCs.nil (σ:Mem):RepCs σ [] []:=⟨rfl,by simp⟩
theorem RepCs.one {σ:Mem} {a:AV} {v:Value} (h:Rep σ a v):RepCs σ [a] [v]:=⟨rfl,fun j c hj=>by
 cases j with
 | zero=>cases hj;exact ⟨v,rfl,h⟩
 | succ j=>simp at hj⟩
theorem RepCs.append {σ:Mem} {xs ys:List AV} {cs ds:List Value} (h:RepCs σ xs cs) (h':RepCs σ ys ds):RepCs σ (xs++ys) (cs++ds):=by
 refine ⟨by simp [h.1,h'.1],fun j c hj => ?_⟩
 rw [List.getElem?_append] at hj ⊢
 rw [h.1]
 split at hj
 ·rw [if_pos (by assumption)];exact h.2 j c hj
 ·rw [if_neg (by assumption)];exact h'.2 _ c hj
theorem RepCs.of_agg {σ:Mem} {avs:List AV} {vs:Array Value} (h:RepCs σ avs vs.toList):Rep σ (.agg avs) (.agg vs):=by
 refine .agg avs vs (fun j=>vs[j]?.getD undef) (by simpa using h.1) (fun j c hj => ?_) (fun j c hj => ?_)
 ·obtain ⟨u,h1,_⟩:=h.2 j c hj
  rw [Array.getElem?_toList] at h1
  simp [h1]
 ·obtain ⟨u,h1,h2⟩:=h.2 j c hj
  rw [Array.getElem?_toList] at h1
  simpa [h1] using h2
section
variable {H:Type} {enc:TypeId×Value→H} {P:Program} {w:World} {base:Nat} {spare:Nat→Bool} {held:Bool}
theorem q6g {t:TypeId} {n:Nat} {cs:List Value} {x:DataW H×List MemPlace} (ht:P.underlying t=some .string) (h:DataW.trod enc P w base spare held n t cs=some x) : ∃ s:Str,RepCs (UB w) [.str s] cs:=by
 obtain ⟨s,rfl,_,h1⟩:=DataW.trod_string ht h
 exact ⟨s.data.toList,.one (Rep.str (σ:=UB w) s.data.toList (by simpa using h1))⟩
theorem z0l {t:TypeId} {n:Nat} {cs:List Value} {x:DataW H×List MemPlace} (ht:P.underlying t=some (.int .i64)) (h:DataW.trod enc P w base spare held n t cs=some x) : ∃ i:Int,RepCs (UB w) [.int .i64 i] cs:=by
 obtain ⟨i,rfl,_⟩:=DataW.trod_int ht h
 exact ⟨i,.one (.int _ _)⟩
theorem z9h {t:TypeId} {n:Nat} {cs:List Value} {x:DataW H×List MemPlace} (ht:P.underlying t=some .bool) (h:DataW.trod enc P w base spare held n t cs=some x) : ∃ b:Bool,RepCs (UB w) [.bool b] cs:=by
 obtain ⟨b,rfl,_⟩:=DataW.trod_bool ht h
 exact ⟨b,.one (.bool b)⟩
theorem RepCs.step {σ:Mem} {xs ys:List AV} {cs:List Value} {o k:Nat} (h:RepCs σ xs ((cs.drop o).take k)) (h':RepCs σ ys (cs.drop (o+k))):RepCs σ (xs++ys) (cs.drop o):=by
 have:=h.append h'
 rwa [← List.drop_drop,List.take_append_drop] at this
theorem RepCs.fin {σ:Mem} {cs:List Value} {o:Nat} (h:cs.length=o):RepCs σ [] (cs.drop o):=by
 rw [List.drop_eq_nil_of_le (by omega)]
 exact .nil σ
theorem q4z {α:Type} [Inhabited α] (F:α→AV) (hspare : ∀ b,spare b=true) {t e:TypeId} {n:Nat} {cs:List Value} {x:DataW H×List MemPlace} (ht:P.underlying t=some (.slice e)) {sz:Nat} (hsz:P.cellsOf e=sz) (hF : ∀ a,(F a).cells.length=sz) (hpos:0<sz)
  (hd : ∀ m cs' y,m<n→DataW.trod enc P w base spare held m e cs'=some y → ∃ a,RepCs (UB w) (F a).cells cs') (h:DataW.trod enc P w base spare held n t cs=some x) : ∃ l:List α,RepCs (UB w) [.sl (l.map F)] cs:=by
 rcases DataW.trod_slice ht h with ⟨rfl,_⟩|⟨a,len,cap,elems,rest,m,hn,rfl,_,hb,hl,hm,hlen,hel,hsp,_⟩
 ·exact ⟨[],.one .nilsl⟩
 subst hsz
 have key : ∀ i,i<len → ∃ A,∀ (j:Nat) (c:AV),(F A).cells[j]? = some c → ∃ u,w.cell? (a.add (i*P.cellsOf e+j))=some u∧Rep (UB w) c u:=by
  intro i hi
  have h1:=hel i hi
  rw [List.getElem?_eq_getElem (by omega)] at h1
  obtain ⟨cs',h2,h3⟩:=Option.bind_eq_some_iff.1 h1
  obtain ⟨A,h4,h5⟩:=hd m cs' _ (by omega) h3
  obtain ⟨_,h6,h7⟩:=World.cells?_some h2
  refine ⟨A,fun j c hj => ?_⟩
  obtain ⟨u,h8,h9⟩:=h5 j c hj
  have hj':j<P.cellsOf e:=by rw [← hF A];exact (List.getElem?_eq_some_iff.1 hj).1
  have:=h7 j hj'
  rw [Deep.add_add] at this
  exact ⟨u,this.trans h8,h9⟩
 have spot : ∀ k u,w.cell? (a.add k)=some u→(k=0→a.spot=none) ∧ ∃ cells,UB w a.block=some cells∧cells[a.off+k]? = some u:=fun k u hk=>by
  have h1:=z5x hk
  unfold Addr.add at h1
  split at h1
  ·rename_i h0
   subst h0
   exact ⟨fun _=>h1.1,h1.2⟩
  ·exact ⟨fun h=>absurd h (by assumption),h1.2⟩
 obtain ⟨b,off,sp⟩:=a
 by_cases hcap:cap=0
 ·subst hcap
  obtain rfl:len=0:=by omega
  exact ⟨[],.one (.slz _)⟩
 have hmem:sp=none ∧ ∃ cells,UB w b=some cells:=by
  by_cases hc0:len=0
  ·subst hc0
   have h1:=(hsp (hspare _)).1
   have h2:=(hsp (hspare _)).2 0 (by omega)
   rw [List.getElem?_eq_getElem (by omega)] at h2
   obtain ⟨cs',h3,_⟩:=Option.bind_eq_some_iff.1 h2
   obtain ⟨_,h4,h5⟩:=World.cells?_some h3
   have h6:=h5 0 hpos
   rw [Deep.add_add,List.getElem?_eq_getElem (by omega)] at h6
   obtain ⟨h7,cells,h8,_⟩:=spot _ _ h6
   exact ⟨h7 (by omega),cells,h8⟩
  ·obtain ⟨A,hA⟩:=key 0 (by omega)
   have hj:0<(F A).cells.length:=by rw [hF A];exact hpos
   obtain ⟨u,h1,_⟩:=hA 0 _ (List.getElem?_eq_getElem hj)
   obtain ⟨h7,cells,h8,_⟩:=spot _ _ h1
   exact ⟨h7 (by omega),cells,h8⟩
 obtain ⟨rfl,cells,hcells⟩:=hmem
 obtain ⟨f,hf⟩:=Deep.choose_lt key
 refine ⟨(List.range len).map f,.one ?_⟩
 have hll:(((List.range len).map f).map F).length=len:=by simp
 have hget : ∀ (i:Nat) (x:AV),(((List.range len).map f).map F)[i]? = some x→i<len∧x=F (f i):=fun i x hi=>by
  have hlt:i<len:=by rw [← hll];exact (List.getElem?_eq_some_iff.1 hi).1
  simp [hlt] at hi
  exact ⟨hlt,hi.symm⟩
 have hcell : ∀ (i:Nat) (x:AV) (j:Nat) (c:AV),(((List.range len).map f).map F)[i]? = some x→x.cells[j]? = some c → ∃ u,cells[off+i*P.cellsOf e+j]? = some u∧Rep (UB w) c u:=fun i x j c hi hj=>by
  obtain ⟨hlt,rfl⟩:=hget i x hi
  obtain ⟨u,h1,h2⟩:=hf i hlt j c hj
  obtain ⟨_,cells',h3,h4⟩:=spot _ _ h1
  rw [hcells] at h3
  cases h3
  exact ⟨u,by rw [Nat.add_assoc];exact h4,h2⟩
 have:=Rep.sl (σ:=UB w) (((List.range len).map f).map F) b off cap (P.cellsOf e) cells (fun i j=>(cells[off+i*P.cellsOf e+j]?).getD undef) hcells (by rw [hll];exact hl) hm (fun i x hi=>by rw [(hget i x hi).2,hF])
  (fun i x j c hi hj=>by
    obtain ⟨u,h1,_⟩:=hcell i x j c hi hj
    rw [h1];rfl) (fun i x j c hi hj=>by
    obtain ⟨u,h1,h2⟩:=hcell i x j c hi hj
    rw [h1];exact h2)
 rw [hll] at this
 exact this
end
section
variable {H:Type} {enc:TypeId×Value→H} {w:World}
def z3e (i:TyI):Array Field:=match i.desc with
 | .struct fs=>fs
 | _ => #[]
instance:Inhabited X:=⟨.mk 0 0 [] []⟩
instance:Inhabited Arg:=⟨⟨false,[],default⟩⟩
instance:Inhabited S:=⟨.mk 0 0 [] [] [] default false [] [] []⟩
instance:Inhabited Param:=⟨⟨[],false⟩⟩
instance:Inhabited Pr:=⟨⟨[],[],[],[],[]⟩⟩
noncomputable abbrev Rd (H:Type) (enc:TypeId×Value→H) (w:World) (n:Nat) (t:TypeId) (cs:List Value):Option (DataW H×List MemPlace):=DataW.trod enc Tryz.prog w 0 (fun _=>true) true n t cs
theorem q1q {n:Nat} {t:TypeId} {cs:List Value} {x:DataW H×List MemPlace} (ht:Tryz.prog.underlying t=some (.slice 9)) (h:Rd H enc w n t cs=some x) : ∃ l:List Str,RepCs (UB w) [QD l] cs :=
 q4z AV.str (fun _=>rfl) ht (by kernel_rfl) (fun _=>rfl) Nat.one_pos (fun m cs' y _ hy=>q6g (by kernel_rfl) hy) h
theorem w3t : ∀ (n:Nat) (cs:List Value) (x:DataW H×List MemPlace),Rd H enc w n 55 cs=some x → ∃ e:X,RepCs (UB w) e.cells cs:=by
 intro n
 induction n using Nat.strongRecOn with
 | _ n ih =>
   intro cs x h
   obtain ⟨xs,m,rfl,_,hlen,hxl,hf⟩:=DataW.trod_struct (fs:=z3e w9y) (by kernel_rfl) h
   replace hlen:cs.length=4:=hlen.trans (by kernel_rfl)
   have fld:=fun (i:Nat) (f:Field) (hi:(z3e w9y)[i]? = some f)=>(hf i f hi).trans (List.getElem?_eq_getElem (by rw [hxl];exact (Array.getElem?_eq_some_iff.1 hi).1))
   obtain ⟨op,h0⟩:=z0l (by kernel_rfl) (fld 0 _ rfl)
   obtain ⟨nn,h1⟩:=z0l (by kernel_rfl) (fld 1 _ rfl)
   obtain ⟨nm,h2⟩:=q6g (by kernel_rfl) (fld 2 _ rfl)
   obtain ⟨ks,h3⟩:=q4z (fun x:X => .agg x.cells) (fun _=>rfl) (e:=55) (sz:=4) (by kernel_rfl) (by kernel_rfl) (fun _=>rfl) (by decide) (fun m' cs' y hm hy=>ih m' (by omega) cs' y hy) (fld 3 _ rfl)
   refine ⟨.mk op nn nm ks,?_⟩
   have:=RepCs.step (o:=0) (k:=1) h0 (RepCs.step (o:=1) (k:=1) h1 (RepCs.step (o:=2) (k:=1) h2 (RepCs.step (o:=3) (k:=1) h3 (RepCs.fin hlen))))
   unfold X.cells
   rw [X.avs_eq]
   exact this
theorem w0i (n:Nat) (cs:List Value) (x:DataW H×List MemPlace) (h:Rd H enc w n 73 cs=some x) : ∃ e:Arg,RepCs (UB w) e.cells cs:=by
 obtain ⟨xs,m,rfl,_,hlen,hxl,hf⟩:=DataW.trod_struct (fs:=z3e v0x) (by kernel_rfl) h
 replace hlen:cs.length=6:=hlen.trans (by kernel_rfl)
 have fld:=fun (i:Nat) (f:Field) (hi:(z3e v0x)[i]? = some f)=>(hf i f hi).trans (List.getElem?_eq_getElem (by rw [hxl];exact (Array.getElem?_eq_some_iff.1 hi).1))
 obtain ⟨rf,h0⟩:=z9h (by kernel_rfl) (fld 0 _ rfl)
 obtain ⟨nm,h1⟩:=q6g (by kernel_rfl) (fld 1 _ rfl)
 obtain ⟨e,h2⟩:=w3t _ _ _ (fld 2 _ rfl)
 refine ⟨⟨rf,nm,e⟩,?_⟩
 have:=RepCs.step (o:=0) (k:=1) h0 (RepCs.step (o:=1) (k:=1) h1 (RepCs.step (o:=2) (k:=4) h2 (RepCs.fin hlen)))
 exact this
theorem w5i : ∀ (n:Nat) (cs:List Value) (x:DataW H×List MemPlace),Rd H enc w n 59 cs=some x → ∃ e:S,RepCs (UB w) e.cells cs:=by
 intro n
 induction n using Nat.strongRecOn with
 | _ n ih =>
   intro cs x h
   obtain ⟨xs,m,rfl,_,hlen,hxl,hf⟩:=DataW.trod_struct (fs:=z3e w9x) (by kernel_rfl) h
   replace hlen:cs.length=13:=hlen.trans (by kernel_rfl)
   have fld:=fun (i:Nat) (f:Field) (hi:(z3e w9x)[i]? = some f)=>(hf i f hi).trans (List.getElem?_eq_getElem (by rw [hxl];exact (Array.getElem?_eq_some_iff.1 hi).1))
   obtain ⟨id,h0⟩:=z0l (by kernel_rfl) (fld 0 _ rfl)
   obtain ⟨kd,h1⟩:=z0l (by kernel_rfl) (fld 1 _ rfl)
   obtain ⟨lb,h2⟩:=q1q (by kernel_rfl) (fld 2 _ rfl)
   obtain ⟨nm,h3⟩:=q6g (by kernel_rfl) (fld 3 _ rfl)
   obtain ⟨pc,h4⟩:=q6g (by kernel_rfl) (fld 4 _ rfl)
   obtain ⟨e,h5⟩:=w3t _ _ _ (fld 5 _ rfl)
   obtain ⟨hs,h6⟩:=z9h (by kernel_rfl) (fld 6 _ rfl)
   obtain ⟨ar,h7⟩:=q4z (fun x:Arg => .agg x.cells) (fun _=>rfl) (e:=73) (sz:=6) (by kernel_rfl) (by kernel_rfl) (fun _=>rfl) (by decide) (fun m' cs' y hm hy=>w0i m' cs' y hy) (fld 7 _ rfl)
   obtain ⟨th,h8⟩:=q4z (fun x:S => .agg x.cells) (fun _=>rfl) (e:=59) (sz:=13) (by kernel_rfl) (by kernel_rfl) (fun _=>rfl) (by decide) (fun m' cs' y hm hy=>ih m' (by omega) cs' y hy) (fld 8 _ rfl)
   obtain ⟨el,h9⟩:=q4z (fun x:S => .agg x.cells) (fun _=>rfl) (e:=59) (sz:=13) (by kernel_rfl) (by kernel_rfl) (fun _=>rfl) (by decide) (fun m' cs' y hm hy=>ih m' (by omega) cs' y hy) (fld 9 _ rfl)
   refine ⟨.mk id kd lb nm pc e hs ar th el,?_⟩
   have:=RepCs.step (o:=0) (k:=1) h0 (RepCs.step (o:=1) (k:=1) h1 (RepCs.step (o:=2) (k:=1) h2 (RepCs.step (o:=3) (k:=1) h3 (RepCs.step (o:=4) (k:=1) h4 (RepCs.step (o:=5) (k:=4) h5 (RepCs.step (o:=9) (k:=1) h6 (RepCs.step (o:=10) (k:=1) h7 (RepCs.step (o:=11) (k:=1) h8 (RepCs.step (o:=12) (k:=1) h9 (RepCs.fin hlen))))))))))
   unfold S.cells
   rw [S.avs_eq,S.avs_eq]
   exact this
theorem z3y (n:Nat) (cs:List Value) (x:DataW H×List MemPlace) (h:Rd H enc w n 71 cs=some x) : ∃ e:Param,RepCs (UB w) e.cells cs:=by
 obtain ⟨xs,m,rfl,_,hlen,hxl,hf⟩:=DataW.trod_struct (fs:=z3e v0r) (by kernel_rfl) h
 replace hlen:cs.length=2:=hlen.trans (by kernel_rfl)
 have fld:=fun (i:Nat) (f:Field) (hi:(z3e v0r)[i]? = some f)=>(hf i f hi).trans (List.getElem?_eq_getElem (by rw [hxl];exact (Array.getElem?_eq_some_iff.1 hi).1))
 obtain ⟨nm,h0⟩:=q6g (by kernel_rfl) (fld 0 _ rfl)
 obtain ⟨rf,h1⟩:=z9h (by kernel_rfl) (fld 1 _ rfl)
 refine ⟨⟨nm,rf⟩,?_⟩
 have:=RepCs.step (o:=0) (k:=1) h0 (RepCs.step (o:=1) (k:=1) h1 (RepCs.fin hlen))
 exact this
theorem w5c (n:Nat) (cs:List Value) (x:DataW H×List MemPlace) (h:Rd H enc w n 67 cs=some x) : ∃ e:Pr,RepCs (UB w) e.cells cs:=by
 obtain ⟨xs,m,rfl,_,hlen,hxl,hf⟩:=DataW.trod_struct (fs:=z3e w9f) (by kernel_rfl) h
 replace hlen:cs.length=5:=hlen.trans (by kernel_rfl)
 have fld:=fun (i:Nat) (f:Field) (hi:(z3e w9f)[i]? = some f)=>(hf i f hi).trans (List.getElem?_eq_getElem (by rw [hxl];exact (Array.getElem?_eq_some_iff.1 hi).1))
 obtain ⟨nm,h0⟩:=q6g (by kernel_rfl) (fld 0 _ rfl)
 obtain ⟨pm,h1⟩:=q4z (fun x:Param => .agg x.cells) (fun _=>rfl) (e:=71) (sz:=2) (by kernel_rfl) (by kernel_rfl) (fun _=>rfl) (by decide) (fun m' cs' y hm hy=>z3y m' cs' y hy) (fld 1 _ rfl)
 obtain ⟨vs,h2⟩:=q1q (by kernel_rfl) (fld 2 _ rfl)
 obtain ⟨bd,h3⟩:=q4z (fun x:S => .agg x.cells) (fun _=>rfl) (e:=59) (sz:=13) (by kernel_rfl) (by kernel_rfl) (fun _=>rfl) (by decide) (fun m' cs' y hm hy=>w5i m' cs' y hy) (fld 3 _ rfl)
 obtain ⟨fn,h4⟩:=q1q (by kernel_rfl) (fld 4 _ rfl)
 refine ⟨⟨nm,pm,vs,bd,fn⟩,?_⟩
 have:=RepCs.step (o:=0) (k:=1) h0 (RepCs.step (o:=1) (k:=1) h1 (RepCs.step (o:=2) (k:=1) h2 (RepCs.step (o:=3) (k:=1) h3 (RepCs.step (o:=4) (k:=1) h4 (RepCs.fin hlen)))))
 unfold Pr.cells eSs
 rw [S.avs_eq]
 exact this
theorem w5q (n:Nat) (cs:List Value) (x:DataW H×List MemPlace) (h:Rd H enc w n 25 cs=some x) : ∃ e:Pg,RepCs (UB w) e.cells cs:=by
 obtain ⟨xs,m,rfl,_,hlen,hxl,hf⟩:=DataW.trod_struct (fs:=z3e w8n) (by kernel_rfl) h
 replace hlen:cs.length=2:=hlen.trans (by kernel_rfl)
 have fld:=fun (i:Nat) (f:Field) (hi:(z3e w8n)[i]? = some f)=>(hf i f hi).trans (List.getElem?_eq_getElem (by rw [hxl];exact (Array.getElem?_eq_some_iff.1 hi).1))
 obtain ⟨gl,h0⟩:=q1q (by kernel_rfl) (fld 0 _ rfl)
 obtain ⟨ps,h1⟩:=q4z (fun x:Pr => .agg x.cells) (fun _=>rfl) (e:=67) (sz:=5) (by kernel_rfl) (by kernel_rfl) (fun _=>rfl) (by decide) (fun m' cs' y hm hy=>w5c m' cs' y hy) (fld 1 _ rfl)
 refine ⟨⟨gl,ps⟩,?_⟩
 have:=RepCs.step (o:=0) (k:=1) h0 (RepCs.step (o:=1) (k:=1) h1 (RepCs.fin hlen))
 exact this

theorem w6c {v:Value} {base:Nat} {d:DataW H} {ps:List MemPlace} (hv:Value.okWide Tryz.prog w .any base 25 v) (h:DataW.Trod enc Tryz.prog w 0 (fun _=>true) true 25 v d ps) : ∃ p:Pg,Rep (UB w) (.agg p.cells) v:=by
 have hu:Tryz.prog.underlying 25=some (.struct (z3e w8n)):=by kernel_rfl
 unfold Value.okWide at hv
 rw [hu] at hv
 obtain ⟨cs,rfl,_,_⟩:=hv
 obtain ⟨n,hn⟩:=h
 obtain ⟨p,hp⟩:=w5q n _ _ hn
 exact ⟨p,hp.of_agg⟩
end
theorem Br.dec {p:Prop} [Decidable p] {A B:Prop} (h:p→A) (h' : ¬p→B):Br (decide p) A B:=⟨fun e=>h (by simpa using e),fun e=>h' (by simpa using e)⟩
theorem Br.b {b:Bool} {A B:Prop} (h:b=true→A) (h':b=false→B):Br b A B:=⟨h,h'⟩
theorem Br.dec2 {p:Prop} [Decidable p] {A B:Prop} (h:p→A) (h' : ¬p→B):Br (!decide p) B A:=⟨fun e=>h' (by simpa using e),fun e=>h (by simpa using e)⟩
theorem Br.n {b:Bool} {A B:Prop} (h:b=true→B) (h':b=false→A):Br (!b) A B:=⟨fun e=>h' (by simpa using e),fun e=>h (by simpa using e)⟩
theorem ByteK.at {s:List UInt8} {k:Nat} {K:UInt8→Prop} (hk:k<s.length) (h:K s[k]):ByteK s k K:=⟨k,s[k],rfl,by simp,h⟩
theorem X.avs_len (l:List X):(X.avs l).length=l.length:=by rw [X.avs_eq];simp
theorem S.avs_len (l:List S):(S.avs l).length=l.length:=by rw [S.avs_eq];simp
theorem IdxK.map {α:Type} {f:α→AV} {l:List α} {sz k:Nat} {K:List AV→Prop} (hk:k<(l.map f).length) (hs : ∀ x,(f x).cells.length=sz) (h:K (f (l[k]'(by simpa using hk))).cells):IdxK (l.map f) sz k K :=
 ⟨k,f (l[k]'(by simpa using hk)),rfl,by simp at hk;simp [hk],hs _,h⟩
theorem IdxK.xs {l:List X} {k:Nat} {K:List AV→Prop} (hk:k<(X.avs l).length) (h:K (l[k]'(by rw [X.avs_len] at hk;exact hk)).cells):IdxK (X.avs l) 4 k K:=by
 rw [X.avs_len] at hk
 refine ⟨k,.agg l[k].cells,rfl,?_,rfl,h⟩
 rw [X.avs_eq]
 simp [hk]
theorem IdxK.ss {l:List S} {k:Nat} {K:List AV→Prop} (hk:k<(S.avs l).length) (h:K (l[k]'(by rw [S.avs_len] at hk;exact hk)).cells):IdxK (S.avs l) 13 k K:=by
 rw [S.avs_len] at hk
 refine ⟨k,.agg l[k].cells,rfl,?_,rfl,h⟩
 rw [S.avs_eq]
 simp [hk]
theorem RetK.tt {H:Heap} {b:Bool} (h:b=true):RetK H (.p .tt) (fun r=>r = .bool b):=⟨_,.p (Sub.tt h),rfl⟩
theorem RetK.ff {H:Heap} {b:Bool} (h:b=false):RetK H (.p .ff) (fun r=>r = .bool b):=⟨_,.p (Sub.ff h),rfl⟩
theorem RetK.bool {H:Heap} {a b:Bool} (h:a=b):RetK H (.p (.bool a)) (fun r=>r = .bool b):=⟨_,.p (Sub.bool h),rfl⟩
theorem RetK.int {H:Heap} {k:IntKind} {m n:Int} (h:m=n):RetK H (.p (.int k m)) (fun r=>r = .int k n):=⟨_,.p (Sub.int h),rfl⟩
theorem RetK.p {H:Heap} {a b:AV} (h:a=b):RetK H (.p a) (fun r=>r=b):=⟨_,.p (Sub.of_eq h),rfl⟩
theorem QG {α:Type} {l:List α} {j:Nat} (h:j<l.length):l.drop j=l[j]::l.drop (j+1):=by simp
theorem KC {α:Type} {l:List α} {p:α→Bool} {j:Nat} (hj:j<l.length) (h:p l[j]=true):(l.drop (j+1)).all p=(l.drop j).all p:=by
 rw [QG hj,List.all_cons,h,Bool.true_and]
theorem q0s {α:Type} {l:List α} {p:α→Bool} {j:Nat} (hj:j<l.length) (h:p l[j]=false):(l.drop j).all p=false:=by
 rw [QG hj,List.all_cons,h,Bool.false_and]
theorem KH {α:Type} {l:List α} {p:α→Bool} {j:Nat} (hj:l.length≤j):(l.drop j).all p=true:=by
 rw [List.drop_eq_nil_of_le hj];rfl
theorem q3s {α:Type} {l:List α} {p:α→Bool} {j:Nat} (hj:j<l.length) (h:p l[j]=false):(l.drop (j+1)).any p=(l.drop j).any p:=by
 rw [QG hj,List.any_cons,h,Bool.false_or]
theorem q2d {α:Type} {l:List α} {p:α→Bool} {j:Nat} (hj:j<l.length) (h:p l[j]=true):(l.drop j).any p=true:=by
 rw [QG hj,List.any_cons,h,Bool.true_or]
theorem BP {α:Type} {l:List α} {p:α→Bool} {j:Nat} (hj:l.length≤j):(l.drop j).any p=false:=by
 rw [List.drop_eq_nil_of_le hj];rfl
theorem w0f {α β:Type} {l:List α} {g:α→β} {j:Nat} (hj:j<l.length):(l.take (j+1)).map g=(l.take j).map g++[g l[j]]:=by
 rw [List.take_succ_eq_append_getElem hj,List.map_append]
 rfl
def q9a {α:Type} (p:α→Bool) (l:List α):Int:=bif l.any p then (l.findIdx p:Nat) else -1
theorem w6p {α:Type} {l:List α} {p:α→Bool} {j:Nat} (hj:j<l.length) (h:p l[j]=false):(l.drop j).findIdx p=(l.drop (j+1)).findIdx p+1:=by
 rw [QG hj,List.findIdx_cons,h,cond_false]
theorem w7a {α:Type} {l:List α} {p:α→Bool} {j:Nat} (hj:j<l.length) (h:p l[j]=true):(l.drop j).findIdx p=0:=by
 rw [QG hj,List.findIdx_cons,h,cond_true]
theorem q5c {α:Type} {p:α→Bool} {l:List α}:decide (q9a p l≥0)=l.any p:=by
 unfold q9a
 cases l.any p<;>simp
theorem x2a {α:Type} {p:α→Bool} {l:List α} {j:Nat} (hj:j<l.length) (h:p l[j]=true) (h1:(l.drop j).any p=l.any p) (h2:l.findIdx p=j+(l.drop j).findIdx p):q9a p l=j:=by
 unfold q9a
 rw [← h1,q2d hj h,cond_true,h2,w7a hj h]
 rfl
theorem x9s {α:Type} {p:α→Bool} {l:List α} (h:l.any p=false):q9a p l = -1:=by
 unfold q9a
 rw [h]
 rfl
theorem DrawK.join {P:Program} {T:Tab} {N:Nat} {ops:Array Oper} {info:Info} {id:Nat} {K:St→Prop} {s:St} (S1:St) (h:DrawK P T N info id ops (fun s=>z3g info id s fun s3=>Le N s3 S1) s) (hK:z3g info id S1 K) :
  DrawK P T N info id ops (fun s=>z3g info id s K) s:=by
 refine ⟨⟨fun σ β a w hr=>Code.wp_mono (fun e a' w' hk => ?_) (h.ok.ok σ β a w hr)⟩⟩
 obtain ⟨σ',β',s',hk,hr',hl⟩:=hk
 cases e<;>simp only at hk ⊢
 obtain ⟨s2,h1,h2⟩:=q2h (N:=N) hk
 obtain ⟨σ2,β2,hr2,hl2⟩:=(h2.trans h1) σ' β' a' w' hr'
 exact ⟨σ2,β2,S1,hK,hr2,hl.trans hl2⟩
theorem DrawK.auto {P:Program} {T:Tab} {N:Nat} {ops:Array Oper} {info:Info} {id:Nat} {K:St→Prop} {s:St} (hT:TabOK P T) (hm:P.follows .mixedOrders=true) (hok:(bif x9h ops.size ops.toList then bif Nat.ble (info.sched id).len ops.size then YE ops [] (info.sched id) else false else false)=true)
  (h:drW P T N ops (info.sched id) s K):DrawK P T N info id ops K s:=DrawK.of hT hm _ hok h
open Go.Proofs
def YY (c:UInt8):Bool:=decide (97≤(c.toNat:Int))&&decide ((c.toNat:Int)≤122)
def MX (c:UInt8):Bool:=decide (48≤(c.toNat:Int))&&decide ((c.toNat:Int)≤57)
def w2d (c:UInt8):Bool:=YY c||MX c
theorem x0a (c:UInt8):SpecP Tryz.prog 255 [.int .u8 c.toNat] (fun r=>r = .bool (YY c)):=by
 refine SpecP.body x7z QQ Tryz.func255 rfl Tryz.call255 (by show 1≤_;decide) ?_
 conv=>whnf
 repeat' (refine Br.dec (fun _=>?_) (fun _=>?_)<;>first|(exfalso;omega)|conv=>whnf)
 ·exact RetK.bool (by simp_all [YY];try omega)
 ·exact RetK.ff (by simp_all [YY];try omega)
theorem z6g (c:UInt8):SpecP Tryz.prog 291 [.int .u8 c.toNat] (fun r=>r = .bool (MX c)):=by
 refine SpecP.body x8h QQ Tryz.func291 rfl Tryz.call291 (by show 1≤_;decide) ?_
 conv=>whnf
 repeat' (refine Br.dec (fun _=>?_) (fun _=>?_)<;>first|(exfalso;omega)|conv=>whnf)
 ·exact RetK.bool (by simp_all [MX];try omega)
 ·exact RetK.ff (by simp_all [MX];try omega)
def YA (s:Str) (i:Nat):Nat:=i+((s.drop i).takeWhile w2d).length
theorem BI {s:Str} {i:Nat} (h:i<s.length) (hc:w2d s[i]=true):YA s (i+1)=YA s i:=by
 unfold YA
 rw [QG h,List.takeWhile_cons,if_pos hc]
 simp only [List.length_cons];omega
theorem LN {s:Str} {i:Nat} (h : ∀ (hi:i<s.length),w2d s[i]=false):YA s i=i:=by
 unfold YA
 by_cases hi:i<s.length
 ·rw [QG hi,List.takeWhile_cons,if_neg (by simp [h hi])];rfl
 ·rw [List.drop_eq_nil_of_le (by omega)];rfl
theorem w4i (s:Str) (i:Nat) (hi:i≤s.length):SpecP Tryz.prog 256 [.str s,.int .i64 i] (fun r=>r = .int .i64 (YA s i)):=by
 refine SpecP.body z7f QQ Tryz.func256 rfl Tryz.call256 (by show 2≤_;decide) ?_
 conv=>whnf
 refine LoopK.inv QQ (fun j:Nat=>⟨[(0,.p (.str s)),(1,.p (.int .i64 j))],[]⟩) (fun j=>j≤s.length∧YA s j=YA s i) (fun j=>s.length-j) i (Le.of_eq rfl) ⟨hi,rfl⟩ ?_
 rintro j ⟨h2,h3⟩
 conv=>whnf
 repeat' (first|((first|intro (_:_≤9223372036854775807)|(refine CallK.pure (x0a _) (by repeat' (first|exact ArgP.nil|refine ArgP.cons ?_ ?_|exact Sub.refl _|exact Sub.tt rfl|exact Sub.ff rfl)) ?_;rintro _ rfl)|(refine CallK.pure (z6g _) (by repeat' (first|exact ArgP.nil|refine ArgP.cons ?_ ?_|exact Sub.refl _|exact Sub.tt rfl|exact Sub.ff rfl)) ?_;rintro _ rfl)|(refine ByteK.at (by omega) ?_)|refine Wr.i64 (by omega) (by omega) ?_);conv=>whnf)|(refine Br.dec (fun _=>?_) (fun _=>?_)<;>first|(exfalso;omega)|conv=>whnf)|(refine Br.b (fun _=>?_) (fun _=>?_)<;>conv=>whnf))
 ·exact ⟨j+1,⟨by omega,by rw [BI (by omega) (by simp_all [w2d])];exact h3⟩,by omega,Le.of_eq rfl⟩
 ·exact ⟨j+1,⟨by omega,by rw [BI (by omega) (by simp_all [w2d])];exact h3⟩,by omega,Le.of_eq rfl⟩
 ·exact RetK.int (by rw [← h3,LN fun _=>by simp_all [w2d]])
 ·exact RetK.int (by rw [← h3,LN fun _=>by omega])
def q3a (s:Str):Bool:=decide (s=[103,108,111,98,97,108])||decide (s=[112,114,111,99])||decide (s=[118,97,114])||decide (s=[114,101,102])||decide (s=[105,102])||decide (s=[101,108,115,101])||decide (s=[119,104,105,108,101])||decide (s=[98,114,101,97,107])||decide (s=[99,111,110,116,105,110,117,101])||decide (s=[114,101,116,117,114,110])||decide (s=[103,111,116,111])||decide (s=[114,101,97,100])||decide (s=[112,114,105,110,116])
theorem w1s (s:Str):SpecP Tryz.prog 257 [.str s] (fun r=>r = .bool (q3a s)):=by
 refine SpecP.body z3t QQ Tryz.func257 rfl Tryz.call257 (by show 1≤_;decide) ?_
 conv=>whnf
 repeat' (refine Br.b (fun _=>?_) (fun _=>?_)<;>conv=>whnf)
 all_goals first
  | exact RetK.tt (by simp_all [q3a])
  | exact RetK.ff (by simp_all [q3a])
def isName (s:Str):Bool:=if h:1≤s.length∧s.length≤8 then YY (s[0]'(by omega))&&decide (YA s 0=s.length) && !q3a s else false
theorem q0e (s:Str):SpecP Tryz.prog 186 [.str s] (fun r=>r = .bool (isName s)):=by
 refine SpecP.body z4z QQ Tryz.func186 rfl Tryz.call186 (by show 1≤_;decide) ?_
 conv=>whnf
 repeat' (first|((first|intro (_:_≤9223372036854775807)|(refine CallK.pure (x0a _) (by repeat' (first|exact ArgP.nil|refine ArgP.cons ?_ ?_|exact Sub.refl _|exact Sub.tt rfl|exact Sub.ff rfl)) ?_;rintro _ rfl)|(refine CallK.pure (w4i _ 0 (Nat.zero_le _)) (by repeat' (first|exact ArgP.nil|refine ArgP.cons ?_ ?_|exact Sub.refl _|exact Sub.tt rfl|exact Sub.ff rfl|exact Sub.int (by omega))) ?_;rintro _ rfl)|(refine CallK.pure (w1s _) (by repeat' (first|exact ArgP.nil|refine ArgP.cons ?_ ?_|exact Sub.refl _|exact Sub.tt rfl|exact Sub.ff rfl)) ?_;rintro _ rfl)|(refine ByteK.at (k:=0) (by omega) ?_));conv=>whnf)|(refine Br.dec (fun _=>?_) (fun _=>?_)<;>first|(exfalso;omega)|conv=>whnf)|(refine Br.n (fun _=>?_) (fun _=>?_)<;>conv=>whnf))
 ·exact RetK.ff (by unfold isName;rw [dif_neg (by omega)])
 ·exact RetK.ff (by unfold isName;rw [dif_neg (by omega)])
 ·exact RetK.bool (by unfold isName;rw [dif_pos (by omega)];simp_all;omega)
 ·exact RetK.ff (by unfold isName;rw [dif_pos (by omega)];simp_all;omega)
 ·exact RetK.ff (by unfold isName;rw [dif_pos (by omega)];simp_all)
def namesB (l:List Str):Bool:=l.all isName
theorem q2q (l:List Str):SpecP Tryz.prog 188 [QD l] (fun r=>r = .bool (namesB l)):=by
 refine SpecP.body x4f QQ Tryz.func188 rfl Tryz.call188 (by show 1≤_;decide) ?_
 conv=>whnf
 intro (_:_≤9223372036854775807)
 conv=>whnf
 refine LoopK.inv QQ (fun j:Nat=>⟨[(5,.p (QD l)),(6,.p (.int .i64 (l.map AV.str).length)),(7,.p (.int .i64 j))],[]⟩) (fun j=>j≤l.length∧(l.drop j).all isName=namesB l) (fun j=>l.length-j) 0 (Le.of_eq rfl) ⟨Nat.zero_le _,rfl⟩ ?_
 rintro j ⟨h2,h3⟩
 have hl:(l.map AV.str).length=l.length:=List.length_map _
 conv=>whnf
 repeat' (first|((first|(refine CallK.pure (q0e _) (by repeat' (first|exact ArgP.nil|refine ArgP.cons ?_ ?_|exact Sub.refl _|exact Sub.tt rfl|exact Sub.ff rfl)) ?_;rintro _ rfl)|refine IdxK.map (by omega) (fun _=>rfl) ?_|refine Wr.i64 (by omega) (by omega) ?_);conv=>whnf)|(refine Br.dec (fun _=>?_) (fun _=>?_)<;>first|(exfalso;omega)|conv=>whnf)|(refine Br.n (fun _=>?_) (fun _=>?_)<;>conv=>whnf))
 ·exact ⟨j+1,⟨by omega,by rw [KC (by omega) (by assumption)];exact h3⟩,by omega,Le.of_eq rfl⟩
 ·exact RetK.ff (by rw [← h3,q0s (by omega) (by assumption)])
 ·exact RetK.tt (by rw [← h3,KH (by omega)])
def q4t (op:Int):Int:=if op=1∨op=2 then 0 else if op=3∨op=4 then 1 else if 5≤op∧op≤17 then 2 else -1
theorem z9l (op:Int):SpecP Tryz.prog 185 [.int .i64 op] (fun r=>r = .int .i64 (q4t op)):=by
 refine SpecP.body x9q QQ Tryz.func185 rfl Tryz.call185 (by show 1≤_;decide) ?_
 conv=>whnf
 repeat' (refine Br.dec (fun _=>?_) (fun _=>?_)<;>first|(exfalso;omega)|conv=>whnf)
 all_goals exact RetK.int (by unfold q4t;(repeat' split)<;>omega)
def WT:Nat→X→Bool
 | 0,_=>false
 | n+1,x=>decide ((x.kids.length:Int)=q4t x.op)&&(if x.op=1 then decide (0≤x.n)&&(x.name==[]) else if x.op=2 then decide (x.n=0)&&isName x.name else decide (x.n=0)&&(x.name==[])&&x.kids.all (WT n))
theorem z7z : ∀ (n:Nat) (_:n≤1000) (x:X),SpecP Tryz.prog 127 [.agg x.cells,.int .i64 n] (fun r=>r = .bool (WT n x)):=by
 intro n
 induction n with
 | zero =>
   intro _ x
   refine SpecP.body q6a QQ Tryz.func127 rfl Tryz.call127 (by show 2≤_;decide) ?_
   conv=>whnf
   repeat' (first|(refine DrawK.auto QQ mixed (by kernel_rfl) ?_;conv=>whnf)|(refine Br.dec (fun _=>?_) (fun _=>?_)<;>first|(exfalso;omega)|conv=>whnf))
   exact RetK.ff rfl
 | succ n ih =>
   intro hn x
   refine SpecP.body q6a QQ Tryz.func127 rfl Tryz.call127 (by show 2≤_;decide) ?_
   conv=>whnf
   repeat' (first|((first|intro (_:_≤9223372036854775807)|(refine CallK.pure (z9l _) (by repeat' (first|exact ArgP.nil|refine ArgP.cons ?_ ?_|exact Sub.refl _|exact Sub.tt rfl|exact Sub.ff rfl)) ?_;rintro _ rfl)|(refine CallK.pure (q0e _) (by repeat' (first|exact ArgP.nil|refine ArgP.cons ?_ ?_|exact Sub.refl _|exact Sub.tt rfl|exact Sub.ff rfl)) ?_;rintro _ rfl)|refine DrawK.auto QQ mixed (by kernel_rfl) ?_);conv=>whnf)|(refine Br.dec (fun _=>?_) (fun _=>?_)<;>first|(exfalso;omega)|conv=>whnf)|(refine Br.dec2 (fun _=>?_) (fun _=>?_)<;>first|(exfalso;omega)|conv=>whnf)|(refine Br.n (fun _=>?_) (fun _=>?_)<;>conv=>whnf))
   all_goals try (have hk:((X.avs x.kids).length:Int)=x.kids.length:=by rw [X.avs_len])
   ·exact RetK.bool (by simp_all [WT])
   ·exact RetK.ff (by simp_all [WT];try omega)
   ·exact RetK.bool (by simp_all [WT])
   ·exact RetK.ff (by simp_all [WT];try omega)
   ·have h0:WT (n+1) x=x.kids.all (WT n):=by simp_all [WT]
    rw [h0]
    refine LoopK.inv QQ (fun j:Nat=>⟨[(1,.p (.int .i64 (n+1:Nat))),(49,.p (.sl (X.avs x.kids))),(50,.p (.int .i64 (X.avs x.kids).length)),(51,.p (.int .i64 j))],[]⟩) (fun j=>j≤x.kids.length∧(x.kids.drop j).all (WT n)=x.kids.all (WT n)) (fun j=>x.kids.length-j) 0 (Le.of_eq rfl) ⟨Nat.zero_le _,rfl⟩ ?_
    rintro j ⟨h2,h3⟩
    conv=>whnf
    repeat' (first|((first|refine And.intro rfl ?_|refine IdxK.xs (by omega) ?_|refine Wr.i64 (by omega) (by omega) ?_|(refine CallK.pure (ih (by omega) _) (.cons (Sub.refl _) (.cons (Sub.int (by omega)) .nil)) ?_;rintro _ rfl));conv=>whnf)|(refine Br.dec (fun _=>?_) (fun _=>?_)<;>first|(exfalso;omega)|conv=>whnf)|(refine Br.n (fun _=>?_) (fun _=>?_)<;>conv=>whnf))
    ·exact ⟨j+1,⟨by omega,by rw [KC (by omega) (by assumption)];exact h3⟩,by omega,Le.of_eq rfl⟩
    ·exact RetK.ff (by rw [← h3,q0s (by omega) (by assumption)])
    ·exact RetK.tt (by rw [← h3,KH (by omega)])
   ·exact RetK.ff (by simp_all [WT];try omega)
   ·exact RetK.ff (by simp_all [WT];try omega)
   ·exact RetK.ff (by simp_all [WT];try omega)
def z7k (x:X):Bool:=WT 20 x
theorem q3n (x:X):SpecP Tryz.prog 72 [.agg x.cells] (fun r=>r = .bool (z7k x)):=by
 refine SpecP.body q9y QQ Tryz.func72 rfl Tryz.call72 (by show 1≤_;decide) ?_
 conv=>whnf
 repeat' (refine CallK.pure (z7z 20 (by omega) _) (by repeat' (first|exact ArgP.nil|refine ArgP.cons ?_ ?_|exact Sub.refl _|exact Sub.tt rfl|exact Sub.ff rfl|exact Sub.int (by omega))) ?_;rintro _ rfl;conv=>whnf)
 exact RetK.p rfl
def noneB (x:X):Bool:=decide (x.op=0)&&decide (x.n=0)&&(x.name==[])&&((x.kids.length:Int)==0)
theorem z9m (x:X):SpecP Tryz.prog 312 [.agg x.cells] (fun r=>r = .bool (noneB x)):=by
 refine SpecP.body z0z QQ Tryz.func312 rfl Tryz.call312 (by show 1≤_;decide) ?_
 conv=>whnf
 repeat' (first|(intro (_:_≤9223372036854775807);conv=>whnf)|(refine Br.dec (fun _=>?_) (fun _=>?_)<;>first|(exfalso;omega)|conv=>whnf)|(refine Br.b (fun _=>?_) (fun _=>?_)<;>conv=>whnf))
 all_goals have hk:((X.avs x.kids).length:Int)=x.kids.length:=by rw [X.avs_len]
 all_goals first
  | exact RetK.ff (by simp_all [noneB])
  | exact RetK.bool (by simp_all [noneB])
def YV (s:Str) (is:Bool):Bool:=bif is then isName s else s==[]
theorem q9g (s:Str) (is:Bool):SpecP Tryz.prog 292 [.str s,.bool is] (fun r=>r = .bool (YV s is)):=by
 refine SpecP.body x6n QQ Tryz.func292 rfl Tryz.call292 (by show 2≤_;decide) ?_
 conv=>whnf
 repeat' (first|(refine CallK.pure (q0e _) (by repeat' (first|exact ArgP.nil|refine ArgP.cons ?_ ?_|exact Sub.refl _|exact Sub.tt rfl|exact Sub.ff rfl)) ?_;rintro _ rfl;conv=>whnf)|(refine Br.n (fun _=>?_) (fun _=>?_)<;>conv=>whnf)|(refine Br.b (fun _=>?_) (fun _=>?_)<;>conv=>whnf))
 all_goals first
  | exact RetK.tt (by simp_all [YV])
  | exact RetK.ff (by simp_all [YV])
  | exact RetK.bool (by simp_all [YV])
def FF (x:X) (is:Bool):Bool:=bif is then z7k x else noneB x
theorem q9s (x:X) (is:Bool):SpecP Tryz.prog 293 [.agg x.cells,.bool is] (fun r=>r = .bool (FF x is)):=by
 refine SpecP.body x4o QQ Tryz.func293 rfl Tryz.call293 (by show 2≤_;decide) ?_
 conv=>whnf
 repeat' (first|((first|(refine CallK.pure (q3n _) (by repeat' (first|exact ArgP.nil|refine ArgP.cons ?_ ?_|exact Sub.refl _|exact Sub.tt rfl|exact Sub.ff rfl)) ?_;rintro _ rfl)|(refine CallK.pure (z9m _) (by repeat' (first|exact ArgP.nil|refine ArgP.cons ?_ ?_|exact Sub.refl _|exact Sub.tt rfl|exact Sub.ff rfl)) ?_;rintro _ rfl));conv=>whnf)|(refine Br.n (fun _=>?_) (fun _=>?_)<;>conv=>whnf)|(refine Br.b (fun _=>?_) (fun _=>?_)<;>conv=>whnf))
 all_goals first
  | exact RetK.tt (by simp_all [FF])
  | exact RetK.ff (by simp_all [FF])
  | exact RetK.bool (by simp_all [FF])
def LU (a:Arg):Bool:=YV a.name a.ref&&FF a.x (!a.ref)
theorem x8c (l:List Arg):SpecP Tryz.prog 294 [w3q l] (fun r=>r = .bool (l.all LU)):=by
 refine SpecP.body x4z QQ Tryz.func294 rfl Tryz.call294 (by show 1≤_;decide) ?_
 conv=>whnf
 intro (_:_≤9223372036854775807)
 conv=>whnf
 refine LoopK.inv QQ (fun j:Nat=>⟨[(5,.p (w3q l)),(6,.p (.int .i64 (l.map fun a=>AV.agg a.cells).length)),(7,.p (.int .i64 j))],[]⟩) (fun j=>j≤l.length∧(l.drop j).all LU=l.all LU) (fun j=>l.length-j) 0 (Le.of_eq rfl) ⟨Nat.zero_le _,rfl⟩ ?_
 rintro j ⟨h2,h3⟩
 have hl:(l.map fun a=>AV.agg a.cells).length=l.length:=List.length_map _
 conv=>whnf
 repeat' (first|((first|(refine CallK.pure (q9g _ _) (by repeat' (first|exact ArgP.nil|refine ArgP.cons ?_ ?_|exact Sub.refl _|exact Sub.tt rfl|exact Sub.ff rfl)) ?_;rintro _ rfl)|(refine CallK.pure (q9s _ _) (by repeat' (first|exact ArgP.nil|refine ArgP.cons ?_ ?_|exact Sub.refl _|exact Sub.tt rfl|exact Sub.ff rfl)) ?_;rintro _ rfl)|refine And.intro rfl ?_|refine IdxK.map (by omega) (fun _=>rfl) ?_|refine Wr.i64 (by omega) (by omega) ?_);conv=>whnf)|(refine Br.dec (fun _=>?_) (fun _=>?_)<;>first|(exfalso;omega)|conv=>whnf)|(refine Br.n (fun _=>?_) (fun _=>?_)<;>conv=>whnf))
 ·exact ⟨j+1,⟨by omega,by rw [KC (by omega) (by simp_all [LU])];exact h3⟩,by omega,Le.of_eq rfl⟩
 ·exact RetK.ff (by rw [← h3,q0s (by omega) (by simp_all [LU])])
 ·exact RetK.ff (by rw [← h3,q0s (by omega) (by simp_all [LU])])
 ·exact RetK.tt (by rw [← h3,KH (by omega)])
open Go.Proofs
structure Flds where
 name:Bool
 proc:Bool
 x:Bool
 has:Bool
 thn:Bool
 els:Bool
def q0n (k:Int) (has:Bool) (noName:Bool):Option Flds :=
 if k=1 then some ⟨true,false,true,has,false,false⟩
 else if k=2 then some ⟨true,false,false,has,false,false⟩
 else if k=10 then some ⟨true,false,false,has,false,false⟩
 else if k=3 then some ⟨false,false,true,has,false,false⟩
 else if k=4 then some ⟨!noName,true,false,has,false,false⟩
 else if k=5 then some ⟨false,false,true,has,true,true⟩
 else if k=6 then some ⟨false,false,true,has,true,false⟩
 else if k=9 then some ⟨false,false,has,false,false,false⟩
 else if k=7 then some ⟨false,false,false,has,false,false⟩
 else if k=8 then some ⟨false,false,false,has,false,false⟩
 else none
def WP (s:S):Bool :=
 match q0n s.kind s.has (s.name==[]) with
 | none=>false
 | some f => !(f.has||(!f.thn&&decide (0<s.thn.length))||(!f.els&&decide (0<s.els.length))||(!decide (s.kind=4)&&decide (0<s.args.length)))&&YV s.name f.name&&YV s.proc f.proc&&FF s.x f.x&&s.args.all LU
theorem x1w {s:S} {f:Flds} (h:q0n s.kind s.has (s.name==[])=some f):WP s=(!(f.has||(!f.thn&&decide (0<s.thn.length))||(!f.els&&decide (0<s.els.length))||(!decide (s.kind=4)&&decide (0<s.args.length)))&&YV s.name f.name&&YV s.proc f.proc&&FF s.x f.x&&s.args.all LU):=by
 unfold WP
 rw [h]
theorem x9u (s:S):SpecP Tryz.prog 258 [.agg s.cells] (fun r=>r = .bool (WP s)):=by
 refine SpecP.body x2y QQ Tryz.func258 rfl Tryz.call258 (by show 1≤_;decide) ?_
 conv=>whnf
 repeat' (first|((first|intro (_:_≤9223372036854775807)|(refine CallK.pure (q9g _ _) (by repeat' (first|exact ArgP.nil|refine ArgP.cons ?_ ?_|exact Sub.refl _|exact Sub.tt rfl|exact Sub.ff rfl)) ?_;rintro _ rfl)|(refine CallK.pure (q9s _ _) (by repeat' (first|exact ArgP.nil|refine ArgP.cons ?_ ?_|exact Sub.refl _|exact Sub.tt rfl|exact Sub.ff rfl)) ?_;rintro _ rfl)|(refine CallK.pure (x8c _) (by repeat' (first|exact ArgP.nil|refine ArgP.cons ?_ ?_|exact Sub.refl _|exact Sub.tt rfl|exact Sub.ff rfl)) ?_;rintro _ rfl)|refine DrawK.auto QQ mixed (by kernel_rfl) ?_);conv=>whnf)|(refine Br.dec (fun _=>?_) (fun _=>?_)<;>first|(exfalso;omega)|conv=>whnf)|(refine Br.dec2 (fun _=>?_) (fun _=>?_)<;>first|(exfalso;omega)|conv=>whnf)|(refine Br.n (fun _=>?_) (fun _=>?_)<;>conv=>whnf)|(refine Br.b (fun _=>?_) (fun _=>?_)<;>conv=>whnf))
 all_goals first
  | exact RetK.ff (by simp_all [WP,q0n,S.avs_len])
  | exact RetK.bool (by simp_all [WP,q0n,S.avs_len])
  | exact RetK.ff (by simp_all [WP,q0n,S.avs_len];omega)
open Go.Proofs
mutual
def q4i (nest seen:Int):S→Option Int
 | .mk id kind labels name proc x has args thn els =>
   if seen+1>200 then none else if id≠seen+1 then none else
   bif namesB labels then bif WP (.mk id kind labels name proc x has args thn els) then
    match ZG (nest+1) (seen+1) thn with
    | some m=>ZG (nest+1) m els
    | none=>none
   else none else none
def ZG (nest seen:Int):List S→Option Int
 | []=>some seen
 | s::r=>if nest>12 then none else match q4i nest seen s with
   | some m=>ZG nest m r
   | none=>none
end
theorem z9u (nest seen:Int) (s:S):q4i nest seen s=if seen+1>200 then none else if s.id≠seen+1 then none else
  bif namesB s.labels then bif WP s then
   match ZG (nest+1) (seen+1) s.thn with
   | some m=>ZG (nest+1) m s.els
   | none=>none
  else none else none:=by
 cases s
 rw [q4i]
 rfl
mutual
theorem w6d (nest seen:Int) : ∀ (s:S) {m:Int},q4i nest seen s=some m→seen<m∧m≤200
 | .mk id kind labels name proc x has args thn els,m,h=>by
   simp only [q4i] at h
   split at h
   ·cases h
   split at h
   ·cases h
   cases hn:namesB labels<;>rw [hn] at h
   ·cases h
   cases hf:WP (.mk id kind labels name proc x has args thn els)<;>rw [hf] at h
   ·cases h
   simp only [cond_true] at h
   split at h
   ·rename_i m1 h1
    have h2:=q8y (nest+1) (seen+1) thn (by omega) h1
    have h3:=q8y (nest+1) m1 els h2.2 h
    omega
   ·cases h
theorem q8y (nest seen:Int) : ∀ (l:List S) {m:Int},seen≤200→ZG nest seen l=some m→seen≤m∧m≤200
 | [],m,h0,h=>by
   simp only [ZG] at h
   cases h
   omega
 | s::r,m,h0,h=>by
   simp only [ZG] at h
   split at h
   ·cases h
   split at h
   ·rename_i m1 h1
    have h2:=w6d nest seen s h1
    have h3:=q8y nest m1 r h2.2 h
    omega
   ·cases h
end
def x7i (T:Nat) (nest seen:Int) (l:List S) (r:LV) (H:Heap):Prop :=
 match ZG nest seen l with
 | some m=>r = .p .tt∧H=[(1000,.obj T [.p (.int .i64 m)])]
 | none=>r = .p .ff ∧ ∃ m,H=[(1000,.obj T [.p (.int .i64 m)])]
theorem x0p {T:Nat} {nest seen m:Int} {l:List S} (h:ZG nest seen l=some m):RetHK [(1000,.obj T [.p (.int .i64 m)])] (.p .tt) (x7i T nest seen l) :=
 ⟨.p .tt,.refl _,by unfold x7i;rw [h];exact ⟨rfl,rfl⟩⟩
theorem q3j {T:Nat} {nest seen m:Int} {l:List S} (h:ZG nest seen l=none):RetHK [(1000,.obj T [.p (.int .i64 m)])] (.p .ff) (x7i T nest seen l) :=
 ⟨.p .ff,.refl _,by unfold x7i;rw [h];exact ⟨rfl,_,rfl⟩⟩
theorem q6k {T:Nat} {nest seen:Int} {l:List S} {Q:LV→Heap→Prop} (hs:seen≤200) (h1 : ∀ m,ZG nest seen l=some m→seen≤m→m≤200→Q (.p .tt) [(1000,.obj T [.p (.int .i64 m)])])
  (h2:ZG nest seen l=none → ∀ m,Q (.p .ff) [(1000,.obj T [.p (.int .i64 m)])]) : ∀ l' H',x7i T nest seen l l' H'→Q l' H':=by
 intro l' H' h
 unfold x7i at h
 cases hr:ZG nest seen l with
 | some m =>
   rw [hr] at h
   obtain ⟨rfl,rfl⟩:=h
   have:=q8y nest seen l hs hr
   exact h1 m hr this.1 this.2
 | none =>
   rw [hr] at h
   obtain ⟨rfl,m,rfl⟩:=h
   exact h2 hr m
theorem x6w {nest seen:Int} {l:List S} (h:nest>12) (hl:0<l.length):ZG nest seen l=none:=by
 cases l with
 | nil=>cases hl
 | cons s r=>simp only [ZG];rw [if_pos h]
theorem z8u {nest seen:Int} {l:List S} {j:Nat} (h : ¬nest>12) (hj:j<l.length):ZG nest seen (l.drop j)=match q4i nest seen l[j] with
  | some m=>ZG nest m (l.drop (j+1))
  | none=>none:=by
 rw [QG hj,ZG,if_neg h]
theorem z7v : ∀ (d n:Nat) (_:n+d=14) (l:List S) (seen:Int) (_:0≤seen) (_:seen≤200),
  SpecH Tryz.prog 189 [.ptr 1000 0,.p (eSs l),.p (.int .i64 n)] [(1000,.obj 196 [.p (.int .i64 seen)])] (x7i 196 n seen l):=by
 intro d
 induction d with
 | zero =>
   intro n hn l seen h0 h1
   refine SpecH.body KV QQ Tryz.func189 rfl Tryz.call189 (by show 3≤_;decide) ?_
   conv=>whnf
   repeat' (first|(intro (_:_≤9223372036854775807);conv=>whnf)|(refine Br.dec (fun _=>?_) (fun _=>?_)<;>first|(exfalso;omega)|conv=>whnf))
   ·exact q3j (x6w (by omega) (by rw [S.avs_len] at *;omega))
   ·have hl:=S.avs_len l
    obtain rfl:l=[]:=List.eq_nil_of_length_eq_zero (by omega)
    refine LoopK.inv QQ (fun _:Unit=>⟨[(0,.ptr 1000 0),(2,.p (.int .i64 n)),(16,.p (eSs [])),(17,.p (.int .i64 (S.avs []).length)),(18,.p (.int .i64 0))],[(1000,.obj 196 [.p (.int .i64 seen)])]⟩) (fun _=>True) (fun _=>0) () (Le.of_eq rfl) trivial ?_
    intro _ _
    conv=>whnf
    repeat' (refine Br.dec (fun _=>?_) (fun _=>?_)<;>first|(exfalso;omega)|conv=>whnf)
    exact x0p rfl
 | succ d ih =>
   intro n hn l seen h0 h1
   refine SpecH.body KV QQ Tryz.func189 rfl Tryz.call189 (by show 3≤_;decide) ?_
   have hl:=S.avs_len l
   conv=>whnf
   repeat' (first|(intro (_:_≤9223372036854775807);conv=>whnf)|(refine Br.dec (fun _=>?_) (fun _=>?_)<;>first|(exfalso;omega)|conv=>whnf))
   ·exact q3j (x6w (by omega) (by omega))
   all_goals
    refine LoopK.inv QQ (fun i:Nat×Int=>⟨[(0,.ptr 1000 0),(2,.p (.int .i64 n)),(16,.p (eSs l)),(17,.p (.int .i64 (S.avs l).length)),(18,.p (.int .i64 i.1))],[(1000,.obj 196 [.p (.int .i64 i.2)])]⟩) (fun i=>i.1≤l.length∧0≤i.2∧i.2≤200∧ZG n i.2 (l.drop i.1)=ZG n seen l) (fun i=>l.length-i.1) (0,seen) (Le.of_eq rfl) ⟨Nat.zero_le _,h0,h1,rfl⟩ ?_
    rintro ⟨j,m⟩ ⟨h2,h3,h4,h5⟩
    simp only at h2 h3 h4 h5 ⊢
    conv=>whnf
    repeat' (first|((first|(refine CallK.pure (q2q _) (by repeat' (first|exact ArgP.nil|refine ArgP.cons ?_ ?_|exact Sub.refl _|exact Sub.tt rfl|exact Sub.ff rfl)) ?_;rintro _ rfl)|(refine CallK.pure (x9u _) (by repeat' (first|exact ArgP.nil|refine ArgP.cons ?_ ?_|exact Sub.refl _|exact Sub.tt rfl|exact Sub.ff rfl)) ?_;rintro _ rfl)|refine DrawK.auto QQ mixed (by kernel_rfl) ?_|refine And.intro rfl ?_|refine IdxK.ss (by omega) ?_|refine Wr.i64 (by omega) (by omega) ?_);conv=>whnf)|(refine Br.dec (fun _=>?_) (fun _=>?_)<;>first|(exfalso;omega)|conv=>whnf)|(refine Br.dec2 (fun _=>?_) (fun _=>?_)<;>first|(exfalso;omega)|conv=>whnf)|(refine Br.n (fun _=>?_) (fun _=>?_)<;>conv=>whnf)|(refine CallK.heap [(1000,1000)] 0 (by repeat' (first|exact ArgsH.nil|refine ArgsH.cons ?_ ?_|exact LSub.refl _|exact LSub.p Sub.nils|exact LSub.p (Sub.tt rfl)|exact LSub.p (Sub.ff rfl)|exact LSub.p (Sub.int (by omega)))) (by refine BlksH.cons (j:=1000) rfl rfl ?_ ?_;exact CSub.refl _;exact BlksH.nil) (ih (n+1) (by omega) _ _ (by omega) (by omega)) rfl rfl (q6k (by omega) (fun _ _ _ _ => ?_) (fun _ _ => ?_))<;>conv=>whnf))
    all_goals try (have hst:=z8u (seen:=m) (l:=l) (j:=j) (nest:=(n:Int)) (by omega) (by omega);rw [z9u,show (n:Int)+1=((n+1:Nat):Int) from rfl] at hst)
    all_goals first
     | exact x0p (by rw [← h5,List.drop_eq_nil_of_le (by omega)];simp only [ZG])
     | exact q3j (by rw [← h5,hst];clear h5 hst;first|rw [if_pos (by omega:m+1>200)]|(rw [if_neg (by omega : ¬m+1>200)];simp [*,-Int.natCast_add]))
     | exact ⟨(j+1,_),⟨by simp only;omega,by simp only;omega,by simp only;omega,by rw [← h5,hst];clear h5 hst;first|rw [if_pos (by omega:m+1>200)]|(rw [if_neg (by omega : ¬m+1>200)];simp [*,-Int.natCast_add])⟩,by simp only;omega,Le.of_eq rfl⟩
     | trace_state
open Go.Proofs
def KL (f:Pr):Bool:=decide (f.params.length≤8)&&decide (f.vars.length≤16)&&isName f.name&&namesB f.vars&&namesB f.fin&&f.params.all fun a=>isName a.name
def XL (seen:Int):List Pr→Option Int
 | []=>some seen
 | f::r=>bif KL f then match ZG 1 seen f.body with
    | some m=>XL m r
    | none=>none
   else none
def WI (p:Pg):Bool:=decide (p.globals.length≤16)&&decide (p.procs.length≤16)&&namesB p.globals&&(XL 0 p.procs).isSome
theorem q6j {seen:Int} {l:List Pr} {j:Nat} (hj:j<l.length):XL seen (l.drop j)=bif KL l[j] then match ZG 1 seen l[j].body with
   | some m=>XL m (l.drop (j+1))
   | none=>none
  else none:=by
 rw [QG hj,XL]
theorem BX {f:Pr}:KL f=true↔f.params.length≤8∧f.vars.length≤16∧isName f.name=true∧namesB f.vars=true∧namesB f.fin=true∧(f.params.all fun a=>isName a.name)=true:=by
 simp only [KL,Bool.and_eq_true,decide_eq_true_eq,and_assoc]
theorem q6x {seen:Int} {l:List Pr} {j:Nat} (hj:j<l.length) (h : ¬(l[j].params.length≤8∧l[j].vars.length≤16∧isName l[j].name=true∧namesB l[j].vars=true∧namesB l[j].fin=true∧(l[j].params.all fun a=>isName a.name)=true)):(XL seen (l.drop j)).isSome=false:=by
 rw [q6j hj]
 have:KL l[j]=false:=by rw [Bool.eq_false_iff];intro hm;exact h (BX.1 hm)
 rw [this]
 rfl
theorem z0d (p:Pg):SpecP Tryz.prog 136 [.agg p.cells] (fun r=>r = .bool (WI p)):=by
 refine SpecP.body z5f QQ Tryz.func136 rfl Tryz.call136 (by show 1≤_;decide) ?_
 conv=>whnf
 repeat' (first|((first|intro (_:_≤9223372036854775807)|(refine CallK.pure (q2q _) (by repeat' (first|exact ArgP.nil|refine ArgP.cons ?_ ?_|exact Sub.refl _|exact Sub.tt rfl|exact Sub.ff rfl)) ?_;rintro _ rfl)|refine And.intro rfl ?_);conv=>whnf)|(refine Br.dec (fun _=>?_) (fun _=>?_)<;>first|(exfalso;omega)|conv=>whnf)|(refine Br.n (fun _=>?_) (fun _=>?_)<;>conv=>whnf))
 all_goals try have hl1:(p.globals.map AV.str).length=p.globals.length:=List.length_map _
 all_goals try have hl2:(p.procs.map fun f=>AV.agg f.cells).length=p.procs.length:=List.length_map _
 ·exact RetK.ff (by unfold WI;simp;omega)
 ·exact RetK.ff (by unfold WI;simp;omega)
 ·have h0:WI p=(XL 0 p.procs).isSome:=by unfold WI;simp [*];omega
  rw [h0]
  refine LoopK.inv QQ (fun i:Nat×Int=>⟨[(3,.ptr 0 0),(27,.p (.sl (p.procs.map fun f=>AV.agg f.cells))),(28,.p (.int .i64 (p.procs.map fun f=>AV.agg f.cells).length)),(29,.p (.int .i64 i.1))],[(0,.obj 196 [.p (.int .i64 i.2)])]⟩) (fun i=>i.1≤p.procs.length∧0≤i.2∧i.2≤200∧XL i.2 (p.procs.drop i.1)=XL 0 p.procs) (fun i=>p.procs.length-i.1) (0,0) (Le.of_eq rfl) ⟨Nat.zero_le _,by decide,by decide,rfl⟩ ?_
  rintro ⟨j,m⟩ ⟨h2,h3,h4,h5⟩
  simp only at h2 h3 h4 h5 ⊢
  conv=>whnf
  repeat' (first|((first|intro (_:_≤9223372036854775807)|(refine CallK.pure (q2q _) (by repeat' (first|exact ArgP.nil|refine ArgP.cons ?_ ?_|exact Sub.refl _|exact Sub.tt rfl|exact Sub.ff rfl)) ?_;rintro _ rfl)|(refine CallK.pure (q0e _) (by repeat' (first|exact ArgP.nil|refine ArgP.cons ?_ ?_|exact Sub.refl _|exact Sub.tt rfl|exact Sub.ff rfl)) ?_;rintro _ rfl)|refine And.intro rfl ?_|refine IdxK.map (by omega) (fun _=>rfl) ?_);conv=>whnf)|(refine Br.dec (fun _=>?_) (fun _=>?_)<;>first|(exfalso;omega)|conv=>whnf)|(refine Br.n (fun _=>?_) (fun _=>?_)<;>conv=>whnf))
  all_goals try have hl3:((p.procs[j]'(by omega)).params.map fun a=>AV.agg a.cells).length=(p.procs[j]'(by omega)).params.length:=List.length_map _
  all_goals try have hl4:((p.procs[j]'(by omega)).vars.map AV.str).length=(p.procs[j]'(by omega)).vars.length:=List.length_map _
  rotate_left 2
  ·have hj:j<p.procs.length:=by omega
   refine LoopK.inv QQ (fun i:Nat=>⟨[(3,.ptr 0 0),(5,.p (.ip p.procs[j].cells)),(27,.p (.sl (p.procs.map fun f=>AV.agg f.cells))),(28,.p (.int .i64 (p.procs.map fun f=>AV.agg f.cells).length)),(29,.p (.int .i64 j)),(62,.p (.sl (p.procs[j].params.map fun a=>AV.agg a.cells))),(63,.p (.int .i64 (p.procs[j].params.map fun a=>AV.agg a.cells).length)),(64,.p (.int .i64 i))],[(0,.obj 196 [.p (.int .i64 m)])]⟩) (fun i=>i≤p.procs[j].params.length∧((p.procs[j].params.drop i).all fun a=>isName a.name)=p.procs[j].params.all fun a=>isName a.name) (fun i=>p.procs[j].params.length-i) 0 (Le.of_eq rfl) ⟨Nat.zero_le _,rfl⟩ ?_
   rintro i ⟨h6,h7⟩
   conv=>whnf
   repeat' (first|((first|(refine CallK.pure (q0e _) (by repeat' (first|exact ArgP.nil|refine ArgP.cons ?_ ?_|exact Sub.refl _|exact Sub.tt rfl|exact Sub.ff rfl)) ?_;rintro _ rfl)|refine And.intro rfl ?_|refine IdxK.map (by omega) (fun _=>rfl) ?_|refine Wr.i64 (by omega) (by omega) ?_);conv=>whnf)|(refine Br.dec (fun _=>?_) (fun _=>?_)<;>first|(exfalso;omega)|conv=>whnf)|(refine Br.n (fun _=>?_) (fun _=>?_)<;>conv=>whnf)|(refine CallK.heap [(1000,0)] 0 (by repeat' (first|exact ArgsH.nil|refine ArgsH.cons ?_ ?_|exact LSub.refl _|exact LSub.p Sub.nils|exact LSub.p (Sub.tt rfl)|exact LSub.p (Sub.ff rfl)|exact LSub.p (Sub.int (by omega)))) (by refine BlksH.cons (j:=0) rfl rfl ?_ ?_;exact CSub.refl _;exact BlksH.nil) (z7v 13 1 rfl _ _ (by omega) (by omega)) rfl rfl (q6k (by omega) (fun _ _ _ _ => ?_) (fun _ _ => ?_))<;>conv=>whnf))
   ·exact ⟨i+1,⟨by omega,by rw [← h7,KC (p:=fun a:Param=>isName a.name) (by omega) (by assumption)]⟩,by omega,Le.of_eq rfl⟩
   ·exact RetK.ff (by
     rw [← h5]
     refine q6x hj fun h => ?_
     have:=q0s (p:=fun a:Param=>isName a.name) (l:=p.procs[j].params) (j:=i) (by omega) (by assumption)
     rw [h7,h.2.2.2.2.2] at this
     cases this)
   all_goals
    have hall:(p.procs[j].params.all fun a=>isName a.name)=true:=by rw [← h7,KH (by omega)]
    have hp:KL p.procs[j]=true:=BX.2 ⟨by omega,by omega,by assumption,by assumption,by assumption,hall⟩
    have hst:=q6j (seen:=m) hj
    rw [hp,cond_true] at hst
   ·rename_i m2 hrow _ _
    replace hrow:ZG 1 m p.procs[j].body=some m2:=hrow
    rw [hrow] at hst
    exact ⟨(j+1,m2),⟨by simp only;omega,by simp only;omega,by simp only;omega,by rw [← h5,hst]⟩,by simp only;omega,Le.of_eq rfl⟩
   ·rename_i hrow _
    replace hrow:ZG 1 m p.procs[j].body=none:=hrow
    rw [hrow] at hst
    exact RetK.ff (by rw [← h5,hst];rfl)
  all_goals first
   | exact RetK.tt (by rw [← h5,List.drop_eq_nil_of_le (by omega)];rfl)
   | exact RetK.ff (by rw [← h5];exact q6x (by omega) fun h=>by omega)
   | exact RetK.ff (by rw [← h5];exact q6x (by omega) fun h=>by simp_all)
 ·exact RetK.ff (by unfold WI;simp [*])
open Go.Proofs
theorem WZ (l:List Str) (v:Str):SpecP Tryz.prog 148 [QD l,.str v] (fun r=>r = .int .i64 (q9a (fun s=>v==s) l)):=by
 refine SpecP.body UL QQ Tryz.func148 rfl Tryz.call148 (by show 2≤_;decide) ?_
 conv=>whnf
 intro (_:_≤9223372036854775807)
 have hl:(l.map AV.str).length=l.length:=List.length_map _
 conv=>whnf
 refine LoopK.inv QQ (fun j:Nat=>⟨[(0,.p (QD l)),(1,.p (.str v)),(7,.p (.int .i64 (l.map AV.str).length)),(8,.p (.int .i64 j))],[]⟩) (fun j=>j≤l.length∧(l.drop j).any (fun s=>v==s)=l.any (fun s=>v==s)∧l.findIdx (fun s=>v==s)=j+(l.drop j).findIdx (fun s=>v==s)) (fun j=>l.length-j) 0 (Le.of_eq rfl) ⟨Nat.zero_le _,rfl,by simp⟩ ?_
 rintro j ⟨h2,h3,h4⟩
 conv=>whnf
 repeat' (first|((first|refine IdxK.map (by omega) (fun _=>rfl) ?_|refine Wr.i64 (by omega) (by omega) ?_);conv=>whnf)|(refine Br.dec (fun _=>?_) (fun _=>?_)<;>first|(exfalso;omega)|conv=>whnf)|(refine Br.b (fun _=>?_) (fun _=>?_)<;>conv=>whnf))
 ·exact RetK.int (x2a (p:=fun s=>v==s) (by omega) (by assumption) h3 h4).symm
 ·exact ⟨j+1,⟨by omega,by rw [← h3,q3s (p:=fun s=>v==s) (by omega) (by assumption)],by rw [h4,w6p (p:=fun s=>v==s) (by omega) (by assumption)];omega⟩,by omega,Le.of_eq rfl⟩
 ·exact RetK.int (by rw [x9s];rw [← h3,BP (by omega)])
theorem QV (l:List Str) (v:Str):SpecP Tryz.prog 93 [QD l,.str v] (fun r=>r = .bool (l.any fun s=>v==s)):=by
 refine SpecP.body VA QQ Tryz.func93 rfl Tryz.call93 (by show 2≤_;decide) ?_
 conv=>whnf
 repeat' (refine CallK.pure (WZ _ _) (by repeat' (first|exact ArgP.nil|refine ArgP.cons ?_ ?_|exact Sub.refl _|exact Sub.tt rfl|exact Sub.ff rfl)) ?_;rintro _ rfl;conv=>whnf)
 exact RetK.bool q5c
def XY (l:List Str):Bool:=(List.range l.length).any fun i=>(l.take i).any fun s=>l[i]?.getD []==s
theorem NO (l:List Str):SpecP Tryz.prog 190 [QD l] (fun r=>r = .bool (XY l)):=by
 refine SpecP.body x4x QQ Tryz.func190 rfl Tryz.call190 (by show 1≤_;decide) ?_
 conv=>whnf
 intro (_:_≤9223372036854775807)
 have hl:(l.map AV.str).length=l.length:=List.length_map _
 conv=>whnf
 refine LoopK.inv QQ (fun j:Nat=>⟨[(0,.p (QD l)),(5,.p (QD l)),(6,.p (.int .i64 (l.map AV.str).length)),(7,.p (.int .i64 j))],[]⟩) (fun j=>j≤l.length∧((List.range l.length).drop j).any (fun i=>(l.take i).any fun s=>l[i]?.getD []==s)=XY l) (fun j=>l.length-j) 0 (Le.of_eq rfl) ⟨Nat.zero_le _,rfl⟩ ?_
 rintro j ⟨h2,h3⟩
 conv=>whnf
 repeat' (first|((first|refine IdxK.map (by omega) (fun _=>rfl) ?_|refine Wr.i64 (by omega) (by omega) ?_|refine And.intro (fun e he=>by obtain ⟨x,_,rfl⟩:=List.mem_map.1 he;rfl) (SlK.mk 0 j rfl rfl (by omega) (by omega) ?_)|(refine CallK.pure (QV (l.take j) (l[j]'(by omega))) (.cons (Sub.of_eq (by simp [QD,List.map_take])) (.cons (Sub.refl _) .nil)) ?_;rintro _ rfl));conv=>whnf)|(refine Br.dec (fun _=>?_) (fun _=>?_)<;>first|(exfalso;omega)|conv=>whnf)|(refine Br.b (fun _=>?_) (fun _=>?_)<;>conv=>whnf))
 all_goals try have hr:(List.range l.length)[j]'(by simp;omega)=j:=by simp
 all_goals try have e:l[j]?.getD []=l[j]'(by omega):=by rw [List.getElem?_eq_getElem (by omega)];rfl
 ·exact RetK.tt (by rw [← h3,q2d (p:=fun i=>(l.take i).any fun s=>l[i]?.getD []==s) (by simp;omega) (by rw [hr,e];assumption)])
 ·exact ⟨j+1,⟨by omega,by rw [← h3,q3s (p:=fun i=>(l.take i).any fun s=>l[i]?.getD []==s) (by simp;omega) (by rw [hr,e];assumption)]⟩,by omega,Le.of_eq rfl⟩
 ·exact RetK.ff (by rw [← h3,BP (by simp;omega)])
def x5s (f:Pr):List Str:=f.params.map Param.name++f.vars
theorem z5r (f:Pr) (h1:f.params.length≤1000) (h2:f.vars.length≤1000):SpecP Tryz.prog 191 [.agg f.cells] (fun r=>r=QD (x5s f)):=by
 refine SpecP.body x9m QQ Tryz.func191 rfl Tryz.call191 (by show 1≤_;decide) ?_
 conv=>whnf
 intro (_:_≤9223372036854775807)
 have hl:(f.params.map fun a=>AV.agg a.cells).length=f.params.length:=List.length_map _
 conv=>whnf
 refine LoopK.inv QQ (fun j:Nat=>⟨[(1,.p (.ip f.cells)),(3,.hd 0 0 j),(7,.p (.sl (f.params.map fun a=>AV.agg a.cells))),(8,.p (.int .i64 (f.params.map fun a=>AV.agg a.cells).length)),(9,.p (.int .i64 j))],[(0,.own 9 1 ((f.params.take j).map fun a=>AV.str a.name))]⟩) (fun j=>j≤f.params.length) (fun j=>f.params.length-j) 0
  (Le.mk [(0,.own 9 1 [])] (by simp [Chunk.new0];rfl) (by simp) (by simp) (.cons (.refl _) (.cons (.nil List.mem_cons_self) (.cons (.refl _) (.cons (.refl _) (.cons (.refl _) .nil))))) (.new List.mem_cons_self .nil)) (Nat.zero_le _) ?_
 intro j h3
 conv=>whnf
 repeat' (first|((first|refine And.intro rfl ?_|(refine And.intro ⟨by decide,by decide⟩ ?_)|refine BsK.pure (fun x hx=>by rcases List.mem_singleton.1 hx with rfl;rfl) rfl ?_|refine IdxK.map (by omega) (fun _=>rfl) ?_|refine Wr.i64 (by omega) (by omega) ?_|refine AppK.mk (by simp;omega) rfl (by show (j+1)*16≤140737488355328;omega) (by show j+1≤9223372036854775807;omega) (fun x hx=>by rcases List.mem_singleton.1 hx with rfl;exact ⟨rfl,rfl⟩) ?_|refine AppK.mk (by simp;omega) rfl (by rw [List.length_map];show (j+f.vars.length)*16≤140737488355328;omega) (by rw [List.length_map];show j+f.vars.length≤9223372036854775807;omega) (fun x hx=>by obtain ⟨y,_,rfl⟩:=List.mem_map.1 hx;exact ⟨rfl,rfl⟩) ?_);conv=>whnf)|(refine Br.dec (fun _=>?_) (fun _=>?_)<;>first|(exfalso;omega)|conv=>whnf))
 ·exact ⟨j+1,by omega,by omega,Le.of_eq (by rw [w0f (by omega)];rfl)⟩
 ·refine ⟨_,.hd rfl (by simp;omega),?_⟩
  rw [List.take_of_length_le (by omega)]
  simp [QD,x5s]
open Go.Proofs
mutual
def ZJ:S→Nat
 | .mk _ _ _ _ _ _ _ _ thn els=>1+QY thn+QY els
def QY:List S→Nat
 | []=>0
 | s::r=>ZJ s+QY r
end
theorem ZO (s:S):ZJ s=1+QY s.thn+QY s.els:=by
 cases s
 rw [ZJ]
 rfl
theorem q1g {l:List S} {j:Nat} (hj:j<l.length):QY (l.drop j)=ZJ l[j]+QY (l.drop (j+1)):=by
 rw [QG hj,QY]
theorem z2r {l:List S} {j:Nat} (hj:l.length≤j):QY (l.drop j)=0:=by
 rw [List.drop_eq_nil_of_le hj,QY]
theorem z8d : ∀ (n:Nat) (_:n≤100000) (s:S) (_:ZJ s≤n),SpecP Tryz.prog 201 [.agg s.cells] (fun r=>r = .int .i64 (ZJ s)):=by
 intro n
 induction n with
 | zero=>intro _ s h;rw [ZO] at h;omega
 | succ n ih =>
   intro hn s h
   have hs:=ZO s
   have hl1:=S.avs_len s.thn
   have hl2:=S.avs_len s.els
   refine SpecP.body x8o QQ Tryz.func201 rfl Tryz.call201 (by show 1≤_;decide) ?_
   conv=>whnf
   repeat' (intro (_:_≤9223372036854775807);conv=>whnf)
   refine LoopK.inv QQ (fun i:Nat×Nat=>⟨[(1,.p (.ip s.cells)),(3,.p (.int .i64 i.2)),(9,.p (eSs s.thn)),(10,.p (.int .i64 (S.avs s.thn).length)),(11,.p (.int .i64 i.1))],[]⟩) (fun i=>i.1≤s.thn.length∧1≤i.2∧i.2+QY (s.thn.drop i.1)=1+QY s.thn) (fun i=>s.thn.length-i.1) (0,1) (Le.of_eq rfl) ⟨Nat.zero_le _,Nat.le_refl _,rfl⟩ ?_
   rintro ⟨j,a⟩ ⟨h2,h4,h3⟩
   simp only at h2 h3 h4 ⊢
   have hst : ∀ hj:j<s.thn.length,QY (s.thn.drop j)=ZJ s.thn[j]+QY (s.thn.drop (j+1)):=fun hj=>q1g hj
   conv=>whnf
   repeat' (first|((first|intro (_:_≤9223372036854775807)|refine And.intro rfl ?_|refine IdxK.ss (by omega) ?_|refine Wr.i64 (by omega) (by omega) ?_|(refine CallK.pure (ih (by omega) (s.thn[j]'(by omega)) (by have:=hst (by omega);omega)) (.cons (Sub.refl _) .nil) ?_;rintro _ rfl;have hst:=hst (by omega)));conv=>whnf)|(refine Br.dec (fun _=>?_) (fun _=>?_)<;>first|(exfalso;omega)|conv=>whnf))
   ·exact ⟨(j+1,a+ZJ s.thn[j]),⟨by simp only;omega,by simp only;omega,by simp only;omega⟩,by simp only;omega,Le.of_eq rfl⟩
   ·have ha:a=1+QY s.thn:=by rw [z2r (by omega)] at h3;omega
    refine LoopK.inv QQ (fun i:Nat×Nat=>⟨[(3,.p (.int .i64 i.2)),(21,.p (eSs s.els)),(22,.p (.int .i64 (S.avs s.els).length)),(23,.p (.int .i64 i.1))],[]⟩) (fun i=>i.1≤s.els.length∧1≤i.2∧i.2+QY (s.els.drop i.1)=ZJ s) (fun i=>s.els.length-i.1) (0,a) (Le.of_eq rfl) ⟨Nat.zero_le _,h4,by simp only [List.drop_zero];omega⟩ ?_
    rintro ⟨k,b⟩ ⟨h5,h6,h7⟩
    simp only at h5 h6 h7 ⊢
    have hst2 : ∀ hk:k<s.els.length,QY (s.els.drop k)=ZJ s.els[k]+QY (s.els.drop (k+1)):=fun hk=>q1g hk
    conv=>whnf
    repeat' (first|((first|refine And.intro rfl ?_|refine IdxK.ss (by omega) ?_|refine Wr.i64 (by omega) (by omega) ?_|(refine CallK.pure (ih (by omega) (s.els[k]'(by omega)) (by have:=hst2 (by omega);omega)) (.cons (Sub.refl _) .nil) ?_;rintro _ rfl;have hst2:=hst2 (by omega)));conv=>whnf)|(refine Br.dec (fun _=>?_) (fun _=>?_)<;>first|(exfalso;omega)|conv=>whnf))
    ·exact ⟨(k+1,b+ZJ s.els[k]),⟨by simp only;omega,by simp only;omega,by simp only;omega⟩,by simp only;omega,Le.of_eq rfl⟩
    ·exact RetK.int (by rw [z2r (by omega)] at h7;omega)
end Go.Ab
