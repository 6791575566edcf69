/- What a program that came in reads as: the data of the statements, as they lie in the memory that was there. Conditions: none. -/
import Derived.Deep.Slices
import Derived.Test.YtiaikoimoonlmaaGreatInoB7
set_option linter.unusedSimpArgs false
set_option linter.unusedVariables false
set_option maxRecDepth 100000
set_option maxHeartbeats 16000000
open List (all_cons any_cons)
open Nat (ble)
namespace Go.Ab
open Go.Proofs.Tryz
open Go.Proofs Go.ChangeShapes
def JP (w:World):Mem:=fun b=>match w.heap[b]? with
 | some (.cells c _ _)=>some c
 | _=>none
theorem w1b (w:World):(JP w).lies w:=by
 intro b c h;unfold JP at h;split at h
 ·rename_i c' e fr hh;cases h;exact ⟨e,fr,hh⟩
 ·cases h
theorem w1d {w:World} {a:Addr} {v:Value} (h:w.cell? a=some v):a.spot=none ∧ ∃ cells,JP w a.block=some cells∧cells[a.off]? = some v:=by
 refine ⟨World.cell?_spot h,?_⟩;unfold World.cell? at h;split at h
 ·rename_i c e fr hh;split at h
  ·cases h
  ·exact ⟨c,by unfold JP;rw [hh],h⟩
 ·cases h
def RepCs (σ:Mem) (avs:List AV) (cs:List Value):Prop:=cs.length=avs.length ∧ ∀ (j:Nat) (c:AV),avs[j]? = some c -> ∃ u,cs[j]? = some u∧Rep σ c u
theorem RepCs.nil (σ:Mem):RepCs σ [] []:=⟨rfl,by simp⟩
theorem RepCs.one {σ:Mem} {a:AV} {v:Value} (h:Rep σ a v):RepCs σ [a] [v]:=⟨rfl,fun j c hj=>by
 cases j with
 | zero=>cases hj;exact ⟨v,rfl,h⟩
 | succ j=>simp at hj⟩
theorem RepCs.append {σ:Mem} {xs ys:List AV} {cs ds:List Value} (h:RepCs σ xs cs) (h':RepCs σ ys ds):RepCs σ (xs++ys) (cs++ds):=by
 refine ⟨by simp [h.1,h'.1],fun j c hj => ?_⟩;rw [u7k] at hj ⊢;rw [h.1];split at hj
 ·rw [if_pos (by assumption)];exact h.2 j c hj
 ·rw [if_neg (by assumption)];exact h'.2 _ c hj
theorem RepCs.of_agg {σ:Mem} {avs:List AV} {vs:Array Value} (h:RepCs σ avs vs.toList):Rep σ (.agg avs) (.agg vs):=by
 refine .agg avs vs (fun j=>vs[j]?.getD undef) (by simpa using h.1) (fun j c hj => ?_) (fun j c hj => ?_)
 ·obtain ⟨u,h1,_⟩:=h.2 j c hj;rw [u7n] at h1;simp [h1]
 ·obtain ⟨u,h1,h2⟩:=h.2 j c hj;rw [u7n] at h1;simpa [h1] using h2
section
variable {H:Type} {enc:TypeId×Value->H} {P:Program} {w:World} {base:Nat} {spare:Nat->Bool} {held:Bool}
theorem x3g {t:TypeId} {n:Nat} {cs:List Value} {x:DataW H×List MemPlace} (ht:P.underlying t=some .string) (h:DataW.trod enc P w base spare held n t cs=some x) : ∃ s:Str,RepCs (JP w) [.str s] cs:=by
 obtain ⟨s,rfl,_,h1⟩:=DataW.trod_string ht h;exact ⟨s.data.toList,.one (Rep.str (σ:=JP w) s.data.toList (by simpa using h1))⟩
theorem z9a {t:TypeId} {n:Nat} {cs:List Value} {x:DataW H×List MemPlace} (ht:P.underlying t=some (.int .i64)) (h:DataW.trod enc P w base spare held n t cs=some x) : ∃ i:Int,RepCs (JP w) [.int .i64 i] cs:=by
 obtain ⟨i,rfl,_⟩:=DataW.trod_int ht h;exact ⟨i,.one (.int _ _)⟩
theorem w7m {t:TypeId} {n:Nat} {cs:List Value} {x:DataW H×List MemPlace} (ht:P.underlying t=some .bool) (h:DataW.trod enc P w base spare held n t cs=some x) : ∃ b:Bool,RepCs (JP w) [.bool b] cs:=by
 obtain ⟨b,rfl,_⟩:=DataW.trod_bool ht h;exact ⟨b,.one (.bool b)⟩
theorem RepCs.step {σ:Mem} {xs ys:List AV} {cs:List Value} {o k:Nat} (h:RepCs σ xs ((cs.drop o).take k)) (h':RepCs σ ys (cs.drop (o+k))):RepCs σ (xs++ys) (cs.drop o):=by
 have:=h.append h'
 rwa [<- List.drop_drop,u8m] at this
theorem RepCs.fin {σ:Mem} {cs:List Value} {o:Nat} (h:cs.length=o):RepCs σ [] (cs.drop o):=by
 rw [u4z (by omega)];exact .nil σ
theorem q8l {α:Type} [Inhabited α] (F:α->AV) (hspare : ∀ b,spare b=true) {t e:TypeId} {n:Nat} {cs:List Value} {x:DataW H×List MemPlace} (ht:P.underlying t=some (.slice e)) {sz:Nat} (hsz:P.cellsOf e=sz) (hF : ∀ a,(F a).cells.length=sz) (hpos:0<sz)
  (hd : ∀ m cs' y,m<n->DataW.trod enc P w base spare held m e cs'=some y -> ∃ a,RepCs (JP w) (F a).cells cs') (h:DataW.trod enc P w base spare held n t cs=some x) : ∃ l:List α,RepCs (JP w) [.sl (l.map F)] cs:=by
 rcases DataW.trod_slice ht h with ⟨rfl,_⟩|⟨a,len,cap,elems,rest,m,hn,rfl,_,hb,hl,hm,hlen,hel,hsp,_⟩
 ·exact ⟨[],.one .nilsl⟩
 subst hsz;have key : ∀ i,i<len -> ∃ A,∀ (j:Nat) (c:AV),(F A).cells[j]? = some c -> ∃ u,w.cell? (a.add (i*P.cellsOf e+j))=some u∧Rep (JP w) c u:=by
  intro i hi;have h1:=hel i hi;rw [u3h (by omega)] at h1;obtain ⟨cs',h2,h3⟩:=Option.bind_eq_some_iff.1 h1;obtain ⟨A,h4,h5⟩:=hd m cs' _ (by omega) h3;obtain ⟨_,h6,h7⟩:=World.cells?_some h2;refine ⟨A,fun j c hj => ?_⟩;obtain ⟨u,h8,h9⟩:=h5 j c hj;have hj':j<P.cellsOf e:=by rw [<- hF A];exact (u3e.1 hj).1
  have:=h7 j hj';rw [Deep.add_add] at this;exact ⟨u,this.trans h8,h9⟩
 have spot : ∀ k u,w.cell? (a.add k)=some u->(k=0->a.spot=none) ∧ ∃ cells,JP w a.block=some cells∧cells[a.off+k]? = some u:=fun k u hk=>by
  have h1:=w1d hk;unfold Addr.add at h1;split at h1
  ·rename_i h0;subst h0;exact ⟨fun _=>h1.1,h1.2⟩
  ·exact ⟨fun h=>absurd h (by assumption),h1.2⟩
 obtain ⟨b,off,sp⟩:=a;by_cases hcap:cap=0
 ·subst hcap;obtain rfl:len=0:=by omega
  exact ⟨[],.one (.slz _)⟩
 have hmem:sp=none ∧ ∃ cells,JP w b=some cells:=by
  by_cases hc0:len=0
  ·subst hc0;have h1:=(hsp (hspare _)).1;have h2:=(hsp (hspare _)).2 0 (by omega);rw [u3h (by omega)] at h2;obtain ⟨cs',h3,_⟩:=Option.bind_eq_some_iff.1 h2;obtain ⟨_,h4,h5⟩:=World.cells?_some h3;have h6:=h5 0 hpos;rw [Deep.add_add,u3h (by omega)] at h6;obtain ⟨h7,cells,h8,_⟩:=spot _ _ h6;exact ⟨h7 (by omega),cells,h8⟩
  ·obtain ⟨A,hA⟩:=key 0 (by omega);have hj:0<(F A).cells.length:=by rw [hF A];exact hpos
   obtain ⟨u,h1,_⟩:=hA 0 _ (u3h hj);obtain ⟨h7,cells,h8,_⟩:=spot _ _ h1;exact ⟨h7 (by omega),cells,h8⟩
 obtain ⟨rfl,cells,hcells⟩:=hmem;obtain ⟨f,hf⟩:=Deep.choose_lt key;refine ⟨(List.range len).map f,.one ?_⟩;have hll:(((List.range len).map f).map F).length=len:=by simp
 have hget : ∀ (i:Nat) (x:AV),(((List.range len).map f).map F)[i]? = some x->i<len∧x=F (f i):=fun i x hi=>by
  have hlt:i<len:=by rw [<- hll];exact (u3e.1 hi).1
  simp [hlt] at hi;exact ⟨hlt,hi.symm⟩
 have hcell : ∀ (i:Nat) (x:AV) (j:Nat) (c:AV),(((List.range len).map f).map F)[i]? = some x->x.cells[j]? = some c -> ∃ u,cells[off+i*P.cellsOf e+j]? = some u∧Rep (JP w) c u:=fun i x j c hi hj=>by
  obtain ⟨hlt,rfl⟩:=hget i x hi;obtain ⟨u,h1,h2⟩:=hf i hlt j c hj;obtain ⟨_,cells',h3,h4⟩:=spot _ _ h1;rw [hcells] at h3;cases h3;exact ⟨u,by rw [u6g];exact h4,h2⟩
 have:=Rep.sl (σ:=JP w) (((List.range len).map f).map F) b off cap (P.cellsOf e) cells (fun i j=>(cells[off+i*P.cellsOf e+j]?).getD undef) hcells (by rw [hll];exact hl) hm (fun i x hi=>by rw [(hget i x hi).2,hF])
  (fun i x j c hi hj=>by
    obtain ⟨u,h1,_⟩:=hcell i x j c hi hj;rw [h1];rfl) (fun i x j c hi hj=>by
    obtain ⟨u,h1,h2⟩:=hcell i x j c hi hj;rw [h1];exact h2)
 rw [hll] at this;exact this
end
section
variable {H:Type} {enc:TypeId×Value->H} {w:World}
def w1q (i:TyI):Array Field:=match i.desc with
 | .struct fs=>fs
 | _ => #[]
instance:Inhabited X:=⟨.mk 0 0 [] []⟩
instance:Inhabited Arg:=⟨⟨false,[],default⟩⟩
instance:Inhabited S:=⟨.mk 0 0 [] [] [] default false [] [] []⟩
instance:Inhabited Param:=⟨⟨[],false⟩⟩
instance:Inhabited Pr:=⟨⟨[],[],[],[],[]⟩⟩
noncomputable abbrev Rd (H:Type) (enc:TypeId×Value->H) (w:World) (n:Nat) (t:TypeId) (cs:List Value):Option (DataW H×List MemPlace):=DataW.trod enc prog w 0 (fun _=>true) true n t cs
theorem q4a {n:Nat} {t:TypeId} {cs:List Value} {x:DataW H×List MemPlace} (ht:prog.underlying t=some (.slice 9)) (h:Rd H enc w n t cs=some x) : ∃ l:List Str,RepCs (JP w) [eStrs l] cs :=
 q8l AV.str (fun _=>rfl) ht (by kernel_rfl) (fun _=>rfl) Nat.one_pos (fun m cs' y _ hy=>x3g (by kernel_rfl) hy) h
theorem v2t : ∀ (n:Nat) (cs:List Value) (x:DataW H×List MemPlace),Rd H enc w n 36 cs=some x -> ∃ e:X,RepCs (JP w) e.cells cs:=by
 intro n;induction n using Nat.strongRecOn with
 | _ n ih =>
   intro cs x h;obtain ⟨xs,m,rfl,_,hlen,hxl,hf⟩:=DataW.trod_struct (fs:=w1q u1y) (by kernel_rfl) h;replace hlen:cs.length=4:=hlen.trans (by kernel_rfl);have fld:=fun (i:Nat) (f:Field) (hi:(w1q u1y)[i]? = some f)=>(hf i f hi).trans (u3h (by rw [hxl];exact (u4g.1 hi).1));obtain ⟨op,h0⟩:=z9a (by kernel_rfl) (fld 0 _ rfl);obtain ⟨nn,h1⟩:=z9a (by kernel_rfl) (fld 1 _ rfl);obtain ⟨nm,h2⟩:=x3g (by kernel_rfl) (fld 2 _ rfl);obtain ⟨ks,h3⟩:=q8l (fun x:X => .agg x.cells) (fun _=>rfl) (e:=36) (sz:=4) (by kernel_rfl) (by kernel_rfl) (fun _=>rfl) (by decide) (fun m' cs' y hm hy=>ih m' (by omega) cs' y hy) (fld 3 _ rfl);refine ⟨.mk op nn nm ks,?_⟩;have:=RepCs.step (o:=0) (k:=1) h0 (RepCs.step (o:=1) (k:=1) h1 (RepCs.step (o:=2) (k:=1) h2 (RepCs.step (o:=3) (k:=1) h3 (RepCs.fin hlen))));unfold X.cells;rw [X.avs_eq];exact this
theorem v1g (n:Nat) (cs:List Value) (x:DataW H×List MemPlace) (h:Rd H enc w n 126 cs=some x) : ∃ e:Arg,RepCs (JP w) e.cells cs:=by
 obtain ⟨xs,m,rfl,_,hlen,hxl,hf⟩:=DataW.trod_struct (fs:=w1q v5h) (by kernel_rfl) h;replace hlen:cs.length=6:=hlen.trans (by kernel_rfl);have fld:=fun (i:Nat) (f:Field) (hi:(w1q v5h)[i]? = some f)=>(hf i f hi).trans (u3h (by rw [hxl];exact (u4g.1 hi).1));obtain ⟨rf,h0⟩:=w7m (by kernel_rfl) (fld 0 _ rfl);obtain ⟨nm,h1⟩:=x3g (by kernel_rfl) (fld 1 _ rfl);obtain ⟨e,h2⟩:=v2t _ _ _ (fld 2 _ rfl);refine ⟨⟨rf,nm,e⟩,?_⟩;have:=RepCs.step (o:=0) (k:=1) h0 (RepCs.step (o:=1) (k:=1) h1 (RepCs.step (o:=2) (k:=4) h2 (RepCs.fin hlen)));exact this
theorem v5k : ∀ (n:Nat) (cs:List Value) (x:DataW H×List MemPlace),Rd H enc w n 40 cs=some x -> ∃ e:S,RepCs (JP w) e.cells cs:=by
 intro n;induction n using Nat.strongRecOn with
 | _ n ih =>
   intro cs x h;obtain ⟨xs,m,rfl,_,hlen,hxl,hf⟩:=DataW.trod_struct (fs:=w1q u1j) (by kernel_rfl) h;replace hlen:cs.length=13:=hlen.trans (by kernel_rfl);have fld:=fun (i:Nat) (f:Field) (hi:(w1q u1j)[i]? = some f)=>(hf i f hi).trans (u3h (by rw [hxl];exact (u4g.1 hi).1));obtain ⟨id,h0⟩:=z9a (by kernel_rfl) (fld 0 _ rfl);obtain ⟨kd,h1⟩:=z9a (by kernel_rfl) (fld 1 _ rfl);obtain ⟨lb,h2⟩:=q4a (by kernel_rfl) (fld 2 _ rfl);obtain ⟨nm,h3⟩:=x3g (by kernel_rfl) (fld 3 _ rfl);obtain ⟨pc,h4⟩:=x3g (by kernel_rfl) (fld 4 _ rfl);obtain ⟨e,h5⟩:=v2t _ _ _ (fld 5 _ rfl);obtain ⟨hs,h6⟩:=w7m (by kernel_rfl) (fld 6 _ rfl);obtain ⟨ar,h7⟩:=q8l (fun x:Arg => .agg x.cells) (fun _=>rfl) (e:=126) (sz:=6) (by kernel_rfl) (by kernel_rfl) (fun _=>rfl) (by decide) (fun m' cs' y hm hy=>v1g m' cs' y hy) (fld 7 _ rfl);obtain ⟨th,h8⟩:=q8l (fun x:S => .agg x.cells) (fun _=>rfl) (e:=40) (sz:=13) (by kernel_rfl) (by kernel_rfl) (fun _=>rfl) (by decide) (fun m' cs' y hm hy=>ih m' (by omega) cs' y hy) (fld 8 _ rfl);obtain ⟨el,h9⟩:=q8l (fun x:S => .agg x.cells) (fun _=>rfl) (e:=40) (sz:=13) (by kernel_rfl) (by kernel_rfl) (fun _=>rfl) (by decide) (fun m' cs' y hm hy=>ih m' (by omega) cs' y hy) (fld 9 _ rfl);refine ⟨.mk id kd lb nm pc e hs ar th el,?_⟩;have:=RepCs.step (o:=0) (k:=1) h0 (RepCs.step (o:=1) (k:=1) h1 (RepCs.step (o:=2) (k:=1) h2 (RepCs.step (o:=3) (k:=1) h3 (RepCs.step (o:=4) (k:=1) h4 (RepCs.step (o:=5) (k:=4) h5 (RepCs.step (o:=9) (k:=1) h6 (RepCs.step (o:=10) (k:=1) h7 (RepCs.step (o:=11) (k:=1) h8 (RepCs.step (o:=12) (k:=1) h9 (RepCs.fin hlen))))))))));unfold S.cells;rw [S.avs_eq,S.avs_eq];exact this
theorem w2l (n:Nat) (cs:List Value) (x:DataW H×List MemPlace) (h:Rd H enc w n 97 cs=some x) : ∃ e:Param,RepCs (JP w) e.cells cs:=by
 obtain ⟨xs,m,rfl,_,hlen,hxl,hf⟩:=DataW.trod_struct (fs:=w1q ty97) (by kernel_rfl) h;replace hlen:cs.length=2:=hlen.trans (by kernel_rfl);have fld:=fun (i:Nat) (f:Field) (hi:(w1q ty97)[i]? = some f)=>(hf i f hi).trans (u3h (by rw [hxl];exact (u4g.1 hi).1));obtain ⟨nm,h0⟩:=x3g (by kernel_rfl) (fld 0 _ rfl);obtain ⟨rf,h1⟩:=w7m (by kernel_rfl) (fld 1 _ rfl);refine ⟨⟨nm,rf⟩,?_⟩;have:=RepCs.step (o:=0) (k:=1) h0 (RepCs.step (o:=1) (k:=1) h1 (RepCs.fin hlen));exact this
theorem v5j (n:Nat) (cs:List Value) (x:DataW H×List MemPlace) (h:Rd H enc w n 90 cs=some x) : ∃ e:Pr,RepCs (JP w) e.cells cs:=by
 obtain ⟨xs,m,rfl,_,hlen,hxl,hf⟩:=DataW.trod_struct (fs:=w1q u1k) (by kernel_rfl) h;replace hlen:cs.length=5:=hlen.trans (by kernel_rfl);have fld:=fun (i:Nat) (f:Field) (hi:(w1q u1k)[i]? = some f)=>(hf i f hi).trans (u3h (by rw [hxl];exact (u4g.1 hi).1));obtain ⟨nm,h0⟩:=x3g (by kernel_rfl) (fld 0 _ rfl);obtain ⟨pm,h1⟩:=q8l (fun x:Param => .agg x.cells) (fun _=>rfl) (e:=97) (sz:=2) (by kernel_rfl) (by kernel_rfl) (fun _=>rfl) (by decide) (fun m' cs' y hm hy=>w2l m' cs' y hy) (fld 1 _ rfl);obtain ⟨vs,h2⟩:=q4a (by kernel_rfl) (fld 2 _ rfl);obtain ⟨bd,h3⟩:=q8l (fun x:S => .agg x.cells) (fun _=>rfl) (e:=40) (sz:=13) (by kernel_rfl) (by kernel_rfl) (fun _=>rfl) (by decide) (fun m' cs' y hm hy=>v5k m' cs' y hy) (fld 3 _ rfl);obtain ⟨fn,h4⟩:=q4a (by kernel_rfl) (fld 4 _ rfl);refine ⟨⟨nm,pm,vs,bd,fn⟩,?_⟩;have:=RepCs.step (o:=0) (k:=1) h0 (RepCs.step (o:=1) (k:=1) h1 (RepCs.step (o:=2) (k:=1) h2 (RepCs.step (o:=3) (k:=1) h3 (RepCs.step (o:=4) (k:=1) h4 (RepCs.fin hlen)))));unfold Pr.cells eSs;rw [S.avs_eq];exact this
theorem v5y (n:Nat) (cs:List Value) (x:DataW H×List MemPlace) (h:Rd H enc w n 25 cs=some x) : ∃ e:Pg,RepCs (JP w) e.cells cs:=by
 obtain ⟨xs,m,rfl,_,hlen,hxl,hf⟩:=DataW.trod_struct (fs:=w1q v8r) (by kernel_rfl) h;replace hlen:cs.length=2:=hlen.trans (by kernel_rfl);have fld:=fun (i:Nat) (f:Field) (hi:(w1q v8r)[i]? = some f)=>(hf i f hi).trans (u3h (by rw [hxl];exact (u4g.1 hi).1));obtain ⟨gl,h0⟩:=q4a (by kernel_rfl) (fld 0 _ rfl);obtain ⟨ps,h1⟩:=q8l (fun x:Pr => .agg x.cells) (fun _=>rfl) (e:=90) (sz:=5) (by kernel_rfl) (by kernel_rfl) (fun _=>rfl) (by decide) (fun m' cs' y hm hy=>v5j m' cs' y hy) (fld 1 _ rfl);refine ⟨⟨gl,ps⟩,?_⟩;have:=RepCs.step (o:=0) (k:=1) h0 (RepCs.step (o:=1) (k:=1) h1 (RepCs.fin hlen));exact this

theorem v4m {v:Value} {base:Nat} {d:DataW H} {ps:List MemPlace} (hv:Value.okWide prog w .any base 25 v) (h:DataW.Trod enc prog w 0 (fun _=>true) true 25 v d ps) : ∃ p:Pg,Rep (JP w) (.agg p.cells) v:=by
 have hu:prog.underlying 25=some (.struct (w1q v8r)):=by kernel_rfl
 unfold Value.okWide at hv;rw [hu] at hv;obtain ⟨cs,rfl,_,_⟩:=hv;obtain ⟨n,hn⟩:=h;obtain ⟨p,hp⟩:=v5y n _ _ hn;exact ⟨p,hp.of_agg⟩
end
theorem v5i {p:Prop} [Decidable p] {A B:Prop} (h:p->A) (h' : ¬p->B):Br (decide p) A B:=⟨fun e=>h (by simpa using e),fun e=>h' (by simpa using e)⟩
theorem v3q {p:Prop} [Decidable p] {A B:Prop} (h:p->A) (h' : ¬p->B):Br (!decide p) B A:=⟨fun e=>h' (by simpa using e),fun e=>h (by simpa using e)⟩
theorem Br.n {b:Bool} {A B:Prop} (h:b=true->B) (h':b=false->A):Br (!b) A B:=⟨fun e=>h' (by simpa using e),fun e=>h (by simpa using e)⟩
theorem ByteK.at {s:List UInt8} {k:Nat} {K:UInt8->Prop} (hk:k<s.length) (h:K s[k]):ByteK s k K:=⟨k,s[k],rfl,by simp,h⟩
theorem X.avs_len (l:List X):(X.avs l).length=l.length:=by rw [X.avs_eq];simp
theorem S.avs_len (l:List S):(S.avs l).length=l.length:=by rw [S.avs_eq];simp
theorem IdxK.map {α:Type} {f:α->AV} {l:List α} {sz k:Nat} {K:List AV->Prop} (hk:k<(l.map f).length) (hs : ∀ x,(f x).cells.length=sz) (h:K (f (l[k]'(by simpa using hk))).cells):IdxK (l.map f) sz k K :=
 ⟨k,f (l[k]'(by simpa using hk)),rfl,by simp at hk;simp [hk],hs _,h⟩
theorem IdxK.xs {l:List X} {k:Nat} {K:List AV->Prop} (hk:k<(X.avs l).length) (h:K (l[k]'(by rw [X.avs_len] at hk;exact hk)).cells):IdxK (X.avs l) 4 k K:=by
 rw [X.avs_len] at hk;refine ⟨k,.agg l[k].cells,rfl,?_,rfl,h⟩;rw [X.avs_eq];simp [hk]
theorem GZ {l:List S} {k:Nat} {K:List AV->Prop} (hk:k<(S.avs l).length) (h:K (l[k]'(by rw [S.avs_len] at hk;exact hk)).cells):IdxK (S.avs l) 13 k K:=by
 rw [S.avs_len] at hk;refine ⟨k,.agg l[k].cells,rfl,?_,rfl,h⟩;rw [S.avs_eq];simp [hk]
theorem RetK.tt {H:Heap} {b:Bool} (h:b=true):RetK H (.p .tt) (fun r=>r = .bool b):=⟨_,.p (Sub.tt h),rfl⟩
theorem RetK.ff {H:Heap} {b:Bool} (h:b=false):RetK H (.p .ff) (fun r=>r = .bool b):=⟨_,.p (Sub.ff h),rfl⟩
theorem RetK.bool {H:Heap} {a b:Bool} (h:a=b):RetK H (.p (.bool a)) (fun r=>r = .bool b):=⟨_,.p (Sub.bool h),rfl⟩
theorem RetK.int {H:Heap} {k:IntKind} {m n:Int} (h:m=n):RetK H (.p (.int k m)) (fun r=>r = .int k n):=⟨_,.p (Sub.int h),rfl⟩
theorem RetK.p {H:Heap} {a b:AV} (h:a=b):RetK H (.p a) (fun r=>r=b):=⟨_,.p (Sub.of_eq h),rfl⟩
theorem QF {α:Type} {l:List α} {j:Nat} (h:j<l.length):l.drop j=l[j]::l.drop (j+1):=by simp
theorem HE {α:Type} {l:List α} {p:α->Bool} {j:Nat} (hj:j<l.length) (h:p l[j]=true):(l.drop (j+1)).all p=(l.drop j).all p:=by
 rw [QF hj,all_cons,h,u7e]
theorem q3y {α:Type} {l:List α} {p:α->Bool} {j:Nat} (hj:j<l.length) (h:p l[j]=false):(l.drop j).all p=false:=by
 rw [QF hj,all_cons,h,Bool.false_and]
theorem HA {α:Type} {l:List α} {p:α->Bool} {j:Nat} (hj:l.length<=j):(l.drop j).all p=true:=by
 rw [u4z hj];rfl
theorem q0u {α:Type} {l:List α} {p:α->Bool} {j:Nat} (hj:j<l.length) (h:p l[j]=false):(l.drop (j+1)).any p=(l.drop j).any p:=by
 rw [QF hj,any_cons,h,Bool.false_or]
theorem q1u {α:Type} {l:List α} {p:α->Bool} {j:Nat} (hj:j<l.length) (h:p l[j]=true):(l.drop j).any p=true:=by
 rw [QF hj,any_cons,h,Bool.true_or]
theorem HI {α:Type} {l:List α} {p:α->Bool} {j:Nat} (hj:l.length<=j):(l.drop j).any p=false:=by
 rw [u4z hj];rfl
theorem v1k {α β:Type} {l:List α} {g:α->β} {j:Nat} (hj:j<l.length):(l.take (j+1)).map g=(l.take j).map g++[g l[j]]:=by
 rw [u3a hj,u3t];rfl
def q3l {α:Type} (p:α->Bool) (l:List α):Int:=bif l.any p then (l.findIdx p:Nat) else -1
theorem w8t {α:Type} {l:List α} {p:α->Bool} {j:Nat} (hj:j<l.length) (h:p l[j]=false):(l.drop j).findIdx p=(l.drop (j+1)).findIdx p+1:=by
 rw [QF hj,List.findIdx_cons,h,u4h]
theorem v6a {α:Type} {l:List α} {p:α->Bool} {j:Nat} (hj:j<l.length) (h:p l[j]=true):(l.drop j).findIdx p=0:=by
 rw [QF hj,List.findIdx_cons,h,u4y]
theorem x1i {α:Type} {p:α->Bool} {l:List α}:decide (q3l p l≥0)=l.any p:=by
 unfold q3l;cases l.any p<;>simp
theorem q9c {α:Type} {p:α->Bool} {l:List α} {j:Nat} (hj:j<l.length) (h:p l[j]=true) (h1:(l.drop j).any p=l.any p) (h2:l.findIdx p=j+(l.drop j).findIdx p):q3l p l=j:=by
 unfold q3l;rw [<- h1,q1u hj h,u4y,h2,v6a hj h];rfl
theorem x8w {α:Type} {p:α->Bool} {l:List α} (h:l.any p=false):q3l p l = -1:=by
 unfold q3l;rw [h];rfl
theorem JQ {P:Program} {T:Tab} {N:Nat} {ops:Array Oper} {info:Info} {id:Nat} {K:St->Prop} {s:St} (S1:St) (h:DrawK P T N info id ops (fun s=>z3c info id s fun s3=>Le N s3 S1) s) (hK:z3c info id S1 K) :
  DrawK P T N info id ops (fun s=>z3c info id s K) s:=by
 refine ⟨⟨fun σ β a w hr=>Code.wp_mono (fun e a' w' hk => ?_) (h.ok.ok σ β a w hr)⟩⟩;obtain ⟨σ',β',s',hk,hr',hl⟩:=hk;cases e<;>simp only at hk ⊢;obtain ⟨s2,h1,h2⟩:=q7u (N:=N) hk;obtain ⟨σ2,β2,hr2,hl2⟩:=(h2.trans h1) σ' β' a' w' hr';exact ⟨σ2,β2,S1,hK,hr2,hl.trans hl2⟩
theorem x4k {P:Program} {T:Tab} {N:Nat} {ops:Array Oper} {info:Info} {id:Nat} {K:St->Prop} {s:St} (hT:TabOK P T) (hm:P.follows .mixedOrders=true) (hok:(bif x7s ops.size ops.toList then bif ble (info.sched id).len ops.size then VC ops [] (info.sched id) else false else false)=true)
  (h:drW P T N ops (info.sched id) s K):DrawK P T N info id ops K s:=DrawK.of hT hm _ hok h
theorem bD {p:Prop} [Decidable p] {A B:Prop} (h:p->A) (h' : ¬p->B):Br (decide p) A B:=v5i h h'
theorem bE {p:Prop} [Decidable p] {A B:Prop} (h:p->A) (h' : ¬p->B):Br (!decide p) B A:=v3q h h'
theorem bB {b:Bool} {A B:Prop} (h:b=true->A) (h':b=false->B):Br b A B:=⟨h,h'⟩
theorem bN {b:Bool} {A B:Prop} (h:b=true->B) (h':b=false->A):Br (!b) A B:=Br.n h h'
theorem iM {n:Nat} {K:Prop} (h:n<=9223372036854775807->K):n<=9223372036854775807->K:=h
theorem wI {n:Int} {K:Int->Prop} (hk:K n) (h1 : -9223372036854775808<=n:=by omega) (h2:n<=9223372036854775807:=by omega):Wr .i64 n K:=Wr.i64 h1 h2 hk
theorem aD {a b c:Prop} (h:c) (h1:a:=by decide) (h2:b:=by decide):(a∧b)∧c:=⟨⟨h1,h2⟩,h⟩
theorem aR {a b c d:Prop} (h:d) (h1:a:=by exact rfl) (h2:b:=by exact rfl) (h3:c:=by decide):(a∧b∧c)∧d:=⟨⟨h1,h2,h3⟩,h⟩
theorem bP {es:List AV} {sz:Nat} {out:List LV} {Kp Ko:Prop} (hK:Kp) (hx : ∀ x∈es,x.cells.length=sz:=by intro x hx;rcases u3b.1 hx with rfl;rfl) (ho:out=(es.flatMap AV.cells).map .p:=by exact rfl):BsK es sz out Kp Ko := .pure hx ho hK
theorem iA {α:Type} {f:α->AV} {l:List α} {sz k:Nat} {K:List AV->Prop} (h : ∀ hk:k<l.length,K (f l[k]).cells) (hk:k<(l.map f).length:=by omega) (hs : ∀ x,(f x).cells.length=sz:=by intro _;rfl):IdxK (l.map f) sz k K:=IdxK.map hk hs (h (by simpa using hk))
theorem dA {N:Nat} {ops:Array Oper} {info:Info} {id:Nat} {K:St->Prop} {s:St} (h:drW prog tab N ops (info.sched id) s K) (hok:(bif x7s ops.size ops.toList then bif ble (info.sched id).len ops.size then VC ops [] (info.sched id) else false else false)=true:=by kernel_rfl):DrawK prog tab N info id ops K s:=x4k QX mixed hok h
theorem cP {P:Program} {N:Nat} {g:FuncId} {args:List LV} {dst:Option Nat} {s:St} {K:St->Prop} {avs:List AV} {c:AV} (hs:SpecP P g avs fun r=>r=c) (h:setD N s.sl dst (.p c) fun sl=>K ⟨sl,s.H⟩) (ha:ArgP args avs:=by (repeat (refine ArgP.cons ?_ ?_;first|exact Sub.refl _|exact Sub.tt rfl|exact Sub.ff rfl|exact Sub.int (by omega)));exact ArgP.nil):CallK P N g args dst s K:=CallK.pure hs ha fun _ e=>e▸h
theorem lE {N:Nat} {s:St} {sl':List (Nat×LV)} {H':Heap} (hnd:(H'.map (·.1)).Nodup:=by simp) (hsl:WkS [] s.sl sl':=by (repeat (refine WkS.cons ?_ ?_;exact Wk.refl _));exact WkS.nil) (hH:WkH [] s.H H':=by (repeat refine WkH.cons rfl (CWk.refl _) ?_);exact WkH.nil):Le N s ⟨sl',H'⟩:=Le.mk [] (by simp) (by simp) hnd hsl hH
theorem sB (info:Info) {f:FuncId} {fn:Func} {c:Code} (hf:prog.funcs[f]? = some fn) (hb:fn.body=some c) (hgo : ∀ (vals:Array Value) (w:World),(callFunc f vals).run prog w = .ok (.enter f vals) w)
  {args:List AV} {R:AV->Prop} (h:W prog tab fn.ntmps info c (u1p tab fn.results R) ⟨z1w args 0,[]⟩) (hlen:args.length<=fn.ntmps:=by exact u8l rfl):SpecP prog f args R:=SpecP.body info QX hf hb hgo hlen h
theorem sH (info:Info) {f:FuncId} {fn:Func} {c:Code} (hf:prog.funcs[f]? = some fn) (hb:fn.body=some c) (hgo : ∀ (vals:Array Value) (w:World),(callFunc f vals).run prog w = .ok (.enter f vals) w)
  {args:List LV} {H:Heap} {R:LV->Heap->Prop} (h:W prog tab fn.ntmps info c (u1b tab fn.results R) ⟨q7i args 0,H⟩) (hlen:args.length<=fn.ntmps:=by exact u8l rfl):SpecH prog f args H R:=SpecH.body info QX hf hb hgo hlen h
def KN (c:UInt8):Bool:=decide (97<=(c.toNat:Int))&&decide ((c.toNat:Int)<=122)
def q1n (c:UInt8):Bool:=decide (48<=(c.toNat:Int))&&decide ((c.toNat:Int)<=57)
def w9b (c:UInt8):Bool:=KN c||q1n c
theorem x5l (c:UInt8):SpecP prog 243 [.int .u8 c.toNat] (fun r=>r = .bool (KN c)):=by
 refine sB z0b func243 rfl call243 ?_;conv=>whnf
 repeat' (apply bD<;>intro _<;>first|omega|conv=>whnf)
 ·exact RetK.bool (by simp_all [KN];try omega)
 ·exact RetK.ff (by simp_all [KN];try omega)
theorem w5u (c:UInt8):SpecP prog 308 [.int .u8 c.toNat] (fun r=>r = .bool (q1n c)):=by
 refine sB z4t func308 rfl call308 ?_;conv=>whnf
 repeat' (apply bD<;>intro _<;>first|omega|conv=>whnf)
 ·exact RetK.bool (by simp_all [q1n];try omega)
 ·exact RetK.ff (by simp_all [q1n];try omega)
def GK (s:Str) (i:Nat):Nat:=i+((s.drop i).takeWhile w9b).length
theorem MP {s:Str} {i:Nat} (h:i<s.length) (hc:w9b s[i]=true):GK s (i+1)=GK s i:=by
 unfold GK;rw [QF h,List.takeWhile_cons,if_pos hc];simp only [u4t];omega
theorem q3o {s:Str} {i:Nat} (h : ∀ (hi:i<s.length),w9b s[i]=false):GK s i=i:=by
 unfold GK;by_cases hi:i<s.length
 ·rw [QF hi,List.takeWhile_cons,if_neg (by simp [h hi])];rfl
 ·rw [u4z (by omega)];rfl
theorem v4g (s:Str) (i:Nat) (hi:i<=s.length):SpecP prog 244 [.str s,.int .i64 i] (fun r=>r = .int .i64 (GK s i)):=by
 refine sB w2t func244 rfl call244 ?_;conv=>whnf
 refine LoopK.inv QX (fun j:Nat=>⟨[(0,.p (.str s)),(1,.p (.int .i64 j))],[]⟩) (fun j=>j<=s.length∧GK s j=GK s i) (fun j=>s.length-j) i (Le.of_eq rfl) ⟨hi,rfl⟩ ?_;rintro j ⟨h2,h3⟩;conv=>whnf
 repeat' (first|((first|(refine iM fun _=>?_)|refine cP (x5l _) ?_|refine cP (w5u _) ?_|(refine ByteK.at (by omega) ?_)|refine wI ?_);conv=>whnf)|(apply bD<;>intro _<;>first|omega|conv=>whnf)|(apply bB<;>intro _<;>conv=>whnf))
 ·exact ⟨j+1,⟨by omega,by rw [MP (by omega) (by simp_all [w9b])];exact h3⟩,by omega,Le.of_eq rfl⟩
 ·exact ⟨j+1,⟨by omega,by rw [MP (by omega) (by simp_all [w9b])];exact h3⟩,by omega,Le.of_eq rfl⟩
 ·exact RetK.int (by rw [<- h3,q3o fun _=>by simp_all [w9b]])
 ·exact RetK.int (by rw [<- h3,q3o fun _=>by omega])
def q8g (s:Str):Bool:=decide (s=[103,108,111,98,97,108])||decide (s=[112,114,111,99])||decide (s=[118,97,114])||decide (s=[114,101,102])||decide (s=[105,102])||decide (s=[101,108,115,101])||decide (s=[119,104,105,108,101])||decide (s=[98,114,101,97,107])||decide (s=[99,111,110,116,105,110,117,101])||decide (s=[114,101,116,117,114,110])||decide (s=[103,111,116,111])||decide (s=[114,101,97,100])||decide (s=[112,114,105,110,116])
theorem w9e (s:Str):SpecP prog 245 [.str s] (fun r=>r = .bool (q8g s)):=by
 refine sB w0w func245 rfl call245 ?_;conv=>whnf
 repeat' (apply bB<;>intro _<;>conv=>whnf)
 all_goals first
  | exact RetK.tt (by simp_all [q8g])
  | exact RetK.ff (by simp_all [q8g])
def isName (s:Str):Bool:=if h:1<=s.length∧s.length<=8 then KN (s[0]'(by omega))&&decide (GK s 0=s.length) && !q8g s else false
theorem q3i (s:Str):SpecP prog 174 [.str s] (fun r=>r = .bool (isName s)):=by
 refine sB w0z func174 rfl call174 ?_;conv=>whnf
 repeat' (first|((first|(refine iM fun _=>?_)|refine cP (x5l _) ?_|refine cP (v4g _ 0 (u3l _)) ?_|refine cP (w9e _) ?_|(refine ByteK.at (k:=0) (by omega) ?_));conv=>whnf)|(apply bD<;>intro _<;>first|omega|conv=>whnf)|(apply bN<;>intro _<;>conv=>whnf))
 ·exact RetK.ff (by unfold isName;rw [dif_neg (by omega)])
 ·exact RetK.ff (by unfold isName;rw [dif_neg (by omega)])
 ·exact RetK.bool (by unfold isName;rw [dif_pos (by omega)];simp_all;omega)
 ·exact RetK.ff (by unfold isName;rw [dif_pos (by omega)];simp_all;omega)
 ·exact RetK.ff (by unfold isName;rw [dif_pos (by omega)];simp_all)
def namesB (l:List Str):Bool:=l.all isName
theorem q7j (l:List Str):SpecP prog 173 [eStrs l] (fun r=>r = .bool (namesB l)):=by
 refine sB z0r func173 rfl call173 ?_;conv=>whnf
 refine iM fun _=>?_;conv=>whnf
 refine LoopK.inv QX (fun j:Nat=>⟨[(5,.p (eStrs l)),(6,.p (.int .i64 (l.map AV.str).length)),(7,.p (.int .i64 j))],[]⟩) (fun j=>j<=l.length∧(l.drop j).all isName=namesB l) (fun j=>l.length-j) 0 (Le.of_eq rfl) ⟨u3l _,rfl⟩ ?_;rintro j ⟨h2,h3⟩;have hl:(l.map AV.str).length=l.length:=u3k _;conv=>whnf
 repeat' (first|((first|refine cP (q3i _) ?_|(refine iA fun _=>?_)|refine wI ?_);conv=>whnf)|(apply bD<;>intro _<;>first|omega|conv=>whnf)|(apply bN<;>intro _<;>conv=>whnf))
 ·exact ⟨j+1,⟨by omega,by rw [HE (by omega) (by assumption)];exact h3⟩,by omega,Le.of_eq rfl⟩
 ·exact RetK.ff (by rw [<- h3,q3y (by omega) (by assumption)])
 ·exact RetK.tt (by rw [<- h3,HA (by omega)])
def q9v (op:Int):Int:=if op=1∨op=2 then 0 else if op=3∨op=4 then 1 else if 5<=op∧op<=17 then 2 else -1
theorem w7b (op:Int):SpecP prog 346 [.int .i64 op] (fun r=>r = .int .i64 (q9v op)):=by
 refine sB z4a func346 rfl call346 ?_;conv=>whnf
 repeat' (apply bD<;>intro _<;>first|omega|conv=>whnf)
 all_goals exact RetK.int (by unfold q9v;(repeat' split)<;>omega)
def VO:Nat->X->Bool
 | 0,_=>false
 | n+1,x=>decide ((x.kids.length:Int)=q9v x.op)&&(if x.op=1 then decide (0<=x.n)&&(x.name==[]) else if x.op=2 then decide (x.n=0)&&isName x.name else decide (x.n=0)&&(x.name==[])&&x.kids.all (VO n))
theorem w7d : ∀ (n:Nat) (_:n<=1000) (x:X),SpecP prog 320 [.agg x.cells,.int .i64 n] (fun r=>r = .bool (VO n x)):=by
 intro n;induction n with
 | zero =>
   intro _ x;refine sB x0n func320 rfl call320 ?_;conv=>whnf
   repeat' (first|(refine dA ?_;conv=>whnf)|(apply bD<;>intro _<;>first|omega|conv=>whnf))
   exact RetK.ff rfl
 | succ n ih =>
   intro hn x;refine sB x0n func320 rfl call320 ?_;conv=>whnf
   repeat' (first|((first|(refine iM fun _=>?_)|refine cP (w7b _) ?_|refine cP (q3i _) ?_|refine dA ?_);conv=>whnf)|(apply bD<;>intro _<;>first|omega|conv=>whnf)|(apply bE<;>intro _<;>first|omega|conv=>whnf)|(apply bN<;>intro _<;>conv=>whnf))
   all_goals try (have hk:((X.avs x.kids).length:Int)=x.kids.length:=by rw [X.avs_len])
   ·exact RetK.bool (by simp_all [VO])
   ·exact RetK.ff (by simp_all [VO];try omega)
   ·exact RetK.bool (by simp_all [VO])
   ·exact RetK.ff (by simp_all [VO];try omega)
   ·have h0:VO (n+1) x=x.kids.all (VO n):=by simp_all [VO]
    rw [h0];refine LoopK.inv QX (fun j:Nat=>⟨[(1,.p (.int .i64 (n+1:Nat))),(49,.p (.sl (X.avs x.kids))),(50,.p (.int .i64 (X.avs x.kids).length)),(51,.p (.int .i64 j))],[]⟩) (fun j=>j<=x.kids.length∧(x.kids.drop j).all (VO n)=x.kids.all (VO n)) (fun j=>x.kids.length-j) 0 (Le.of_eq rfl) ⟨u3l _,rfl⟩ ?_;rintro j ⟨h2,h3⟩;conv=>whnf
    repeat' (first|((first|refine u3d rfl ?_|refine IdxK.xs (by omega) ?_|refine wI ?_|(refine CallK.pure (ih (by omega) _) (.cons (Sub.refl _) (.cons (Sub.int (by omega)) .nil)) ?_;rintro _ rfl));conv=>whnf)|(apply bD<;>intro _<;>first|omega|conv=>whnf)|(apply bN<;>intro _<;>conv=>whnf))
    ·exact ⟨j+1,⟨by omega,by rw [HE (by omega) (by assumption)];exact h3⟩,by omega,Le.of_eq rfl⟩
    ·exact RetK.ff (by rw [<- h3,q3y (by omega) (by assumption)])
    ·exact RetK.tt (by rw [<- h3,HA (by omega)])
   ·exact RetK.ff (by simp_all [VO];try omega)
   ·exact RetK.ff (by simp_all [VO];try omega)
   ·exact RetK.ff (by simp_all [VO];try omega)
def w1f (x:X):Bool:=VO 20 x
theorem MZ (x:X):SpecP prog 261 [.agg x.cells] (fun r=>r = .bool (w1f x)):=by
 refine sB x3r func261 rfl call261 ?_;conv=>whnf
 repeat' (refine cP (w7d 20 (by omega) _) ?_;conv=>whnf)
 exact RetK.p rfl
def noneB (x:X):Bool:=decide (x.op=0)&&decide (x.n=0)&&(x.name==[])&&((x.kids.length:Int)==0)
theorem w7p (x:X):SpecP prog 339 [.agg x.cells] (fun r=>r = .bool (noneB x)):=by
 refine sB z4e func339 rfl call339 ?_;conv=>whnf
 repeat' (first|(refine iM fun _=>?_;conv=>whnf)|(apply bD<;>intro _<;>first|omega|conv=>whnf)|(apply bB<;>intro _<;>conv=>whnf))
 all_goals have hk:((X.avs x.kids).length:Int)=x.kids.length:=by rw [X.avs_len]
 all_goals first
  | exact RetK.ff (by simp_all [noneB])
  | exact RetK.bool (by simp_all [noneB])
def KV (s:Str) (is:Bool):Bool:=bif is then isName s else s==[]
theorem x6m (s:Str) (is:Bool):SpecP prog 309 [.str s,.bool is] (fun r=>r = .bool (KV s is)):=by
 refine sB z0l func309 rfl call309 ?_;conv=>whnf
 repeat' (first|(refine cP (q3i _) ?_;conv=>whnf)|(apply bN<;>intro _<;>conv=>whnf)|(apply bB<;>intro _<;>conv=>whnf))
 all_goals first
  | exact RetK.tt (by simp_all [KV])
  | exact RetK.ff (by simp_all [KV])
  | exact RetK.bool (by simp_all [KV])
def PW (x:X) (is:Bool):Bool:=bif is then w1f x else noneB x
theorem x6l (x:X) (is:Bool):SpecP prog 310 [.agg x.cells,.bool is] (fun r=>r = .bool (PW x is)):=by
 refine sB z0t func310 rfl call310 ?_;conv=>whnf
 repeat' (first|((first|refine cP (MZ _) ?_|refine cP (w7p _) ?_);conv=>whnf)|(apply bN<;>intro _<;>conv=>whnf)|(apply bB<;>intro _<;>conv=>whnf))
 all_goals first
  | exact RetK.tt (by simp_all [PW])
  | exact RetK.ff (by simp_all [PW])
  | exact RetK.bool (by simp_all [PW])
def q3m (a:Arg):Bool:=KV a.name a.ref&&PW a.x (!a.ref)
theorem z6l (l:List Arg):SpecP prog 311 [w3t l] (fun r=>r = .bool (l.all q3m)):=by
 refine sB x7y func311 rfl call311 ?_;conv=>whnf
 refine iM fun _=>?_;conv=>whnf
 refine LoopK.inv QX (fun j:Nat=>⟨[(5,.p (w3t l)),(6,.p (.int .i64 (l.map fun a=>AV.agg a.cells).length)),(7,.p (.int .i64 j))],[]⟩) (fun j=>j<=l.length∧(l.drop j).all q3m=l.all q3m) (fun j=>l.length-j) 0 (Le.of_eq rfl) ⟨u3l _,rfl⟩ ?_;rintro j ⟨h2,h3⟩;have hl:(l.map fun a=>AV.agg a.cells).length=l.length:=u3k _;conv=>whnf
 repeat' (first|((first|refine cP (x6m _ _) ?_|refine cP (x6l _ _) ?_|refine u3d rfl ?_|(refine iA fun _=>?_)|refine wI ?_);conv=>whnf)|(apply bD<;>intro _<;>first|omega|conv=>whnf)|(apply bN<;>intro _<;>conv=>whnf))
 ·exact ⟨j+1,⟨by omega,by rw [HE (by omega) (by simp_all [q3m])];exact h3⟩,by omega,Le.of_eq rfl⟩
 ·exact RetK.ff (by rw [<- h3,q3y (by omega) (by simp_all [q3m])])
 ·exact RetK.ff (by rw [<- h3,q3y (by omega) (by simp_all [q3m])])
 ·exact RetK.tt (by rw [<- h3,HA (by omega)])
structure Flds where
 name:Bool
 proc:Bool
 x:Bool
 has:Bool
 thn:Bool
 els:Bool
def q3n (k:Int) (has:Bool) (noName:Bool):Option Flds :=
 if k=1 then some ⟨true,false,true,has,false,false⟩
 else if k=2 then some ⟨true,false,false,has,false,false⟩
 else if k=10 then some ⟨true,false,false,has,false,false⟩
 else if k=3 then some ⟨false,false,true,has,false,false⟩
 else if k=4 then some ⟨!noName,true,false,has,false,false⟩
 else if k=5 then some ⟨false,false,true,has,true,true⟩
 else if k=6 then some ⟨false,false,true,has,true,false⟩
 else if k=9 then some ⟨false,false,has,false,false,false⟩
 else if k=7 then some ⟨false,false,false,has,false,false⟩
 else if k=8 then some ⟨false,false,false,has,false,false⟩
 else none
def VS (s:S):Bool :=
 match q3n s.kind s.has (s.name==[]) with
 | none=>false
 | some f => !(f.has||(!f.thn&&decide (0<s.thn.length))||(!f.els&&decide (0<s.els.length))||(!decide (s.kind=4)&&decide (0<s.args.length)))&&KV s.name f.name&&KV s.proc f.proc&&PW s.x f.x&&s.args.all q3m
theorem x4e {s:S} {f:Flds} (h:q3n s.kind s.has (s.name==[])=some f):VS s=(!(f.has||(!f.thn&&decide (0<s.thn.length))||(!f.els&&decide (0<s.els.length))||(!decide (s.kind=4)&&decide (0<s.args.length)))&&KV s.name f.name&&KV s.proc f.proc&&PW s.x f.x&&s.args.all q3m):=by
 unfold VS;rw [h]
theorem z6m (s:S):SpecP prog 246 [.agg s.cells] (fun r=>r = .bool (VS s)):=by
 refine sB x7v func246 rfl call246 ?_;conv=>whnf
 repeat' (first|((first|(refine iM fun _=>?_)|refine cP (x6m _ _) ?_|refine cP (x6l _ _) ?_|refine cP (z6l _) ?_|refine dA ?_);conv=>whnf)|(apply bD<;>intro _<;>first|omega|conv=>whnf)|(apply bE<;>intro _<;>first|omega|conv=>whnf)|(apply bN<;>intro _<;>conv=>whnf)|(apply bB<;>intro _<;>conv=>whnf))
 all_goals first
  | exact RetK.ff (by simp_all [VS,q3n,S.avs_len])
  | exact RetK.bool (by simp_all [VS,q3n,S.avs_len])
  | exact RetK.ff (by simp_all [VS,q3n,S.avs_len];omega)
mutual
def x0y (nest seen:Int):S->Option Int
 | .mk id kind labels name proc x has args thn els =>
   if seen+1>200 then none else if id≠seen+1 then none else
   bif namesB labels then bif VS (.mk id kind labels name proc x has args thn els) then
    match WV (nest+1) (seen+1) thn with
    | some m=>WV (nest+1) m els
    | none=>none
   else none else none
def WV (nest seen:Int):List S->Option Int
 | []=>some seen
 | s::r=>if nest>12 then none else match x0y nest seen s with
   | some m=>WV nest m r
   | none=>none
end
theorem w6v (nest seen:Int) (s:S):x0y nest seen s=if seen+1>200 then none else if s.id≠seen+1 then none else
  bif namesB s.labels then bif VS s then
   match WV (nest+1) (seen+1) s.thn with
   | some m=>WV (nest+1) m s.els
   | none=>none
  else none else none:=by
 cases s;rw [x0y];rfl
mutual
theorem v4e (nest seen:Int) : ∀ (s:S) {m:Int},x0y nest seen s=some m->seen<m∧m<=200
 | .mk id kind labels name proc x has args thn els,m,h=>by
   simp only [x0y] at h;split at h
   ·cases h
   split at h
   ·cases h
   cases hn:namesB labels<;>rw [hn] at h
   ·cases h
   cases hf:VS (.mk id kind labels name proc x has args thn els)<;>rw [hf] at h
   ·cases h
   simp only [u4y] at h;split at h
   ·rename_i m1 h1;have h2:=x2c (nest+1) (seen+1) thn (by omega) h1;have h3:=x2c (nest+1) m1 els h2.2 h;omega
   ·cases h
theorem x2c (nest seen:Int) : ∀ (l:List S) {m:Int},seen<=200->WV nest seen l=some m->seen<=m∧m<=200
 | [],m,h0,h=>by
   simp only [WV] at h;cases h;omega
 | s::r,m,h0,h=>by
   simp only [WV] at h;split at h
   ·cases h
   split at h
   ·rename_i m1 h1;have h2:=v4e nest seen s h1;have h3:=x2c nest m1 r h2.2 h;omega
   ·cases h
end
def z6v (T:Nat) (nest seen:Int) (l:List S) (r:LV) (H:Heap):Prop :=
 match WV nest seen l with
 | some m=>r = .p .tt∧H=[(1000,.obj T [.p (.int .i64 m)])]
 | none=>r = .p .ff ∧ ∃ m,H=[(1000,.obj T [.p (.int .i64 m)])]
theorem x6y {T:Nat} {nest seen m:Int} {l:List S} (h:WV nest seen l=some m):RetHK [(1000,.obj T [.p (.int .i64 m)])] (.p .tt) (z6v T nest seen l) :=
 ⟨.p .tt,.refl _,by unfold z6v;rw [h];exact ⟨rfl,rfl⟩⟩
theorem q6i {T:Nat} {nest seen m:Int} {l:List S} (h:WV nest seen l=none):RetHK [(1000,.obj T [.p (.int .i64 m)])] (.p .ff) (z6v T nest seen l) :=
 ⟨.p .ff,.refl _,by unfold z6v;rw [h];exact ⟨rfl,_,rfl⟩⟩
theorem x2a {T:Nat} {nest seen:Int} {l:List S} {Q:LV->Heap->Prop} (hs:seen<=200) (h1 : ∀ m,WV nest seen l=some m->seen<=m->m<=200->Q (.p .tt) [(1000,.obj T [.p (.int .i64 m)])])
  (h2:WV nest seen l=none -> ∀ m,Q (.p .ff) [(1000,.obj T [.p (.int .i64 m)])]) : ∀ l' H',z6v T nest seen l l' H'->Q l' H':=by
 intro l' H' h;unfold z6v at h;cases hr:WV nest seen l with
 | some m =>
   rw [hr] at h;obtain ⟨rfl,rfl⟩:=h;have:=x2c nest seen l hs hr;exact h1 m hr this.1 this.2
 | none =>
   rw [hr] at h;obtain ⟨rfl,m,rfl⟩:=h;exact h2 hr m
theorem z3b {nest seen:Int} {l:List S} (h:nest>12) (hl:0<l.length):WV nest seen l=none:=by
 cases l with
 | nil=>cases hl
 | cons s r=>simp only [WV];rw [if_pos h]
theorem w6w {nest seen:Int} {l:List S} {j:Nat} (h : ¬nest>12) (hj:j<l.length):WV nest seen (l.drop j)=match x0y nest seen l[j] with
  | some m=>WV nest m (l.drop (j+1))
  | none=>none:=by
 rw [QF hj,WV,if_neg h]
theorem w7n : ∀ (d n:Nat) (_:n+d=14) (l:List S) (seen:Int) (_:0<=seen) (_:seen<=200),
  SpecH prog 175 [.ptr 1000 0,.p (eSs l),.p (.int .i64 n)] [(1000,.obj 215 [.p (.int .i64 seen)])] (z6v 215 n seen l):=by
 intro d;induction d with
 | zero =>
   intro n hn l seen h0 h1;refine sH HX func175 rfl call175 ?_;conv=>whnf
   repeat' (first|(refine iM fun _=>?_;conv=>whnf)|(apply bD<;>intro _<;>first|omega|conv=>whnf))
   ·exact q6i (z3b (by omega) (by rw [S.avs_len] at *;omega))
   ·have hl:=S.avs_len l;obtain rfl:l=[]:=u6x (by omega);refine LoopK.inv QX (fun _:Unit=>⟨[(0,.ptr 1000 0),(2,.p (.int .i64 n)),(16,.p (eSs [])),(17,.p (.int .i64 (S.avs []).length)),(18,.p (.int .i64 0))],[(1000,.obj 215 [.p (.int .i64 seen)])]⟩) (fun _=>True) (fun _=>0) () (Le.of_eq rfl) trivial ?_;intro _ _;conv=>whnf
    repeat' (apply bD<;>intro _<;>first|omega|conv=>whnf)
    exact x6y rfl
 | succ d ih =>
   intro n hn l seen h0 h1;refine sH HX func175 rfl call175 ?_;have hl:=S.avs_len l;conv=>whnf
   repeat' (first|(refine iM fun _=>?_;conv=>whnf)|(apply bD<;>intro _<;>first|omega|conv=>whnf))
   ·exact q6i (z3b (by omega) (by omega))
   all_goals
    refine LoopK.inv QX (fun i:Nat×Int=>⟨[(0,.ptr 1000 0),(2,.p (.int .i64 n)),(16,.p (eSs l)),(17,.p (.int .i64 (S.avs l).length)),(18,.p (.int .i64 i.1))],[(1000,.obj 215 [.p (.int .i64 i.2)])]⟩) (fun i=>i.1<=l.length∧0<=i.2∧i.2<=200∧WV n i.2 (l.drop i.1)=WV n seen l) (fun i=>l.length-i.1) (0,seen) (Le.of_eq rfl) ⟨u3l _,h0,h1,rfl⟩ ?_;rintro ⟨j,m⟩ ⟨h2,h3,h4,h5⟩;simp only at h2 h3 h4 h5 ⊢;conv=>whnf
    repeat' (first|((first|refine cP (q7j _) ?_|refine cP (z6m _) ?_|refine dA ?_|refine u3d rfl ?_|refine GZ (by omega) ?_|refine wI ?_);conv=>whnf)|(apply bD<;>intro _<;>first|omega|conv=>whnf)|(apply bE<;>intro _<;>first|omega|conv=>whnf)|(apply bN<;>intro _<;>conv=>whnf)|(refine CallK.heap [(1000,1000)] 0 (by repeat' (first|exact u4s|refine u4w ?_ ?_|exact u4v _|exact u4p Sub.nils|exact u4p (Sub.tt rfl)|exact u4p (Sub.ff rfl)|exact u4p (Sub.int (by omega)))) (by refine u4x (j:=1000) rfl rfl ?_ ?_;exact CSub.refl _;exact u4c) (ih (n+1) (by omega) _ _ (by omega) (by omega)) rfl rfl (x2a (by omega) (fun _ _ _ _ => ?_) (fun _ _ => ?_))<;>conv=>whnf))
    all_goals try (have hst:=w6w (seen:=m) (l:=l) (j:=j) (nest:=(n:Int)) (by omega) (by omega);rw [w6v,show (n:Int)+1=((n+1:Nat):Int) from rfl] at hst)
    all_goals first
     | exact x6y (by rw [<- h5,u4z (by omega)];simp only [WV])
     | exact q6i (by rw [<- h5,hst];clear h5 hst;first|rw [if_pos (by omega:m+1>200)]|(rw [if_neg (by omega : ¬m+1>200)];simp [*,-Int.natCast_add]))
     | exact ⟨(j+1,_),⟨by simp only;omega,by simp only;omega,by simp only;omega,by rw [<- h5,hst];clear h5 hst;first|rw [if_pos (by omega:m+1>200)]|(rw [if_neg (by omega : ¬m+1>200)];simp [*,-Int.natCast_add])⟩,by simp only;omega,Le.of_eq rfl⟩
def FX (f:Pr):Bool:=decide (f.params.length<=8)&&decide (f.vars.length<=16)&&isName f.name&&namesB f.vars&&namesB f.fin&&f.params.all fun a=>isName a.name
def ZY (seen:Int):List Pr->Option Int
 | []=>some seen
 | f::r=>bif FX f then match WV 1 seen f.body with
    | some m=>ZY m r
    | none=>none
   else none
def UB (p:Pg):Bool:=decide (p.globals.length<=16)&&decide (p.procs.length<=16)&&namesB p.globals&&(ZY 0 p.procs).isSome
theorem x2h {seen:Int} {l:List Pr} {j:Nat} (hj:j<l.length):ZY seen (l.drop j)=bif FX l[j] then match WV 1 seen l[j].body with
   | some m=>ZY m (l.drop (j+1))
   | none=>none
  else none:=by
 rw [QF hj,ZY]
theorem FE {f:Pr}:FX f=true↔f.params.length<=8∧f.vars.length<=16∧isName f.name=true∧namesB f.vars=true∧namesB f.fin=true∧(f.params.all fun a=>isName a.name)=true:=by
 simp only [FX,u4u,u4b,and_assoc]
theorem x2k {seen:Int} {l:List Pr} {j:Nat} (hj:j<l.length) (h : ¬(l[j].params.length<=8∧l[j].vars.length<=16∧isName l[j].name=true∧namesB l[j].vars=true∧namesB l[j].fin=true∧(l[j].params.all fun a=>isName a.name)=true)):(ZY seen (l.drop j)).isSome=false:=by
 rw [x2h hj];have:FX l[j]=false:=by rw [u8r];intro hm;exact h (FE.1 hm)
 rw [this];rfl
theorem z9c (p:Pg):SpecP prog 106 [.agg p.cells] (fun r=>r = .bool (UB p)):=by
 refine sB w0v func106 rfl call106 ?_;conv=>whnf
 repeat' (first|((first|(refine iM fun _=>?_)|refine cP (q7j _) ?_|refine u3d rfl ?_);conv=>whnf)|(apply bD<;>intro _<;>first|omega|conv=>whnf)|(apply bN<;>intro _<;>conv=>whnf))
 all_goals try have hl1:(p.globals.map AV.str).length=p.globals.length:=u3k _
 all_goals try have hl2:(p.procs.map fun f=>AV.agg f.cells).length=p.procs.length:=u3k _
 ·exact RetK.ff (by unfold UB;simp;omega)
 ·exact RetK.ff (by unfold UB;simp;omega)
 ·have h0:UB p=(ZY 0 p.procs).isSome:=by unfold UB;simp [*];omega
  rw [h0];refine LoopK.inv QX (fun i:Nat×Int=>⟨[(3,.ptr 0 0),(27,.p (.sl (p.procs.map fun f=>AV.agg f.cells))),(28,.p (.int .i64 (p.procs.map fun f=>AV.agg f.cells).length)),(29,.p (.int .i64 i.1))],[(0,.obj 215 [.p (.int .i64 i.2)])]⟩) (fun i=>i.1<=p.procs.length∧0<=i.2∧i.2<=200∧ZY i.2 (p.procs.drop i.1)=ZY 0 p.procs) (fun i=>p.procs.length-i.1) (0,0) (Le.of_eq rfl) ⟨u3l _,by decide,by decide,rfl⟩ ?_;rintro ⟨j,m⟩ ⟨h2,h3,h4,h5⟩;simp only at h2 h3 h4 h5 ⊢;conv=>whnf
  repeat' (first|((first|(refine iM fun _=>?_)|refine cP (q7j _) ?_|refine cP (q3i _) ?_|refine u3d rfl ?_|(refine iA fun _=>?_));conv=>whnf)|(apply bD<;>intro _<;>first|omega|conv=>whnf)|(apply bN<;>intro _<;>conv=>whnf))
  all_goals try have hl3:((p.procs[j]'(by omega)).params.map fun a=>AV.agg a.cells).length=(p.procs[j]'(by omega)).params.length:=u3k _
  all_goals try have hl4:((p.procs[j]'(by omega)).vars.map AV.str).length=(p.procs[j]'(by omega)).vars.length:=u3k _
  rotate_left 2
  ·have hj:j<p.procs.length:=by omega
   refine LoopK.inv QX (fun i:Nat=>⟨[(3,.ptr 0 0),(5,.p (.ip p.procs[j].cells)),(27,.p (.sl (p.procs.map fun f=>AV.agg f.cells))),(28,.p (.int .i64 (p.procs.map fun f=>AV.agg f.cells).length)),(29,.p (.int .i64 j)),(62,.p (.sl (p.procs[j].params.map fun a=>AV.agg a.cells))),(63,.p (.int .i64 (p.procs[j].params.map fun a=>AV.agg a.cells).length)),(64,.p (.int .i64 i))],[(0,.obj 215 [.p (.int .i64 m)])]⟩) (fun i=>i<=p.procs[j].params.length∧((p.procs[j].params.drop i).all fun a=>isName a.name)=p.procs[j].params.all fun a=>isName a.name) (fun i=>p.procs[j].params.length-i) 0 (Le.of_eq rfl) ⟨u3l _,rfl⟩ ?_;rintro i ⟨h6,h7⟩;conv=>whnf
   repeat' (first|((first|refine cP (q3i _) ?_|refine u3d rfl ?_|(refine iA fun _=>?_)|refine wI ?_);conv=>whnf)|(apply bD<;>intro _<;>first|omega|conv=>whnf)|(apply bN<;>intro _<;>conv=>whnf)|(refine CallK.heap [(1000,0)] 0 (by repeat' (first|exact u4s|refine u4w ?_ ?_|exact u4v _|exact u4p Sub.nils|exact u4p (Sub.tt rfl)|exact u4p (Sub.ff rfl)|exact u4p (Sub.int (by omega)))) (by refine u4x (j:=0) rfl rfl ?_ ?_;exact CSub.refl _;exact u4c) (w7n 13 1 rfl _ _ (by omega) (by omega)) rfl rfl (x2a (by omega) (fun _ _ _ _ => ?_) (fun _ _ => ?_))<;>conv=>whnf))
   ·exact ⟨i+1,⟨by omega,by rw [<- h7,HE (p:=fun a:Param=>isName a.name) (by omega) (by assumption)]⟩,by omega,Le.of_eq rfl⟩
   ·exact RetK.ff (by
     rw [<- h5];refine x2k hj fun h => ?_;have:=q3y (p:=fun a:Param=>isName a.name) (l:=p.procs[j].params) (j:=i) (by omega) (by assumption);rw [h7,h.2.2.2.2.2] at this;cases this)
   all_goals
    have hall:(p.procs[j].params.all fun a=>isName a.name)=true:=by rw [<- h7,HA (by omega)]
    have hp:FX p.procs[j]=true:=FE.2 ⟨by omega,by omega,by assumption,by assumption,by assumption,hall⟩;have hst:=x2h (seen:=m) hj;rw [hp,u4y] at hst
   ·rename_i m2 hrow _ _;replace hrow:WV 1 m p.procs[j].body=some m2:=hrow;rw [hrow] at hst;exact ⟨(j+1,m2),⟨by simp only;omega,by simp only;omega,by simp only;omega,by rw [<- h5,hst]⟩,by simp only;omega,Le.of_eq rfl⟩
   ·rename_i hrow _;replace hrow:WV 1 m p.procs[j].body=none:=hrow;rw [hrow] at hst;exact RetK.ff (by rw [<- h5,hst];rfl)
  all_goals first
   | exact RetK.tt (by rw [<- h5,u4z (by omega)];rfl)
   | exact RetK.ff (by rw [<- h5];exact x2k (by omega) fun h=>by omega)
   | exact RetK.ff (by rw [<- h5];exact x2k (by omega) fun h=>by simp_all)
 ·exact RetK.ff (by unfold UB;simp [*])
theorem VJ (l:List Str) (v:Str):SpecP prog 190 [eStrs l,.str v] (fun r=>r = .int .i64 (q3l (fun s=>v==s) l)):=by
 refine sB JI func190 rfl call190 ?_;conv=>whnf
 refine iM fun _=>?_;have hl:(l.map AV.str).length=l.length:=u3k _;conv=>whnf
 refine LoopK.inv QX (fun j:Nat=>⟨[(0,.p (eStrs l)),(1,.p (.str v)),(7,.p (.int .i64 (l.map AV.str).length)),(8,.p (.int .i64 j))],[]⟩) (fun j=>j<=l.length∧(l.drop j).any (fun s=>v==s)=l.any (fun s=>v==s)∧l.findIdx (fun s=>v==s)=j+(l.drop j).findIdx (fun s=>v==s)) (fun j=>l.length-j) 0 (Le.of_eq rfl) ⟨u3l _,rfl,by simp⟩ ?_;rintro j ⟨h2,h3,h4⟩;conv=>whnf
 repeat' (first|((first|(refine iA fun _=>?_)|refine wI ?_);conv=>whnf)|(apply bD<;>intro _<;>first|omega|conv=>whnf)|(apply bB<;>intro _<;>conv=>whnf))
 ·exact RetK.int (q9c (p:=fun s=>v==s) (by omega) (by assumption) h3 h4).symm
 ·exact ⟨j+1,⟨by omega,by rw [<- h3,q0u (p:=fun s=>v==s) (by omega) (by assumption)],by rw [h4,w8t (p:=fun s=>v==s) (by omega) (by assumption)];omega⟩,by omega,Le.of_eq rfl⟩
 ·exact RetK.int (by rw [x8w];rw [<- h3,HI (by omega)])
theorem QU (l:List Str) (v:Str):SpecP prog 147 [eStrs l,.str v] (fun r=>r = .bool (l.any fun s=>v==s)):=by
 refine sB YS func147 rfl call147 ?_;conv=>whnf
 repeat' (refine cP (VJ _ _) ?_;conv=>whnf)
 exact RetK.bool x1i
def XM (l:List Str):Bool:=(List.range l.length).any fun i=>(l.take i).any fun s=>l[i]?.getD []==s
theorem q1e (l:List Str):SpecP prog 191 [eStrs l] (fun r=>r = .bool (XM l)):=by
 refine sB x7x func191 rfl call191 ?_;conv=>whnf
 refine iM fun _=>?_;have hl:(l.map AV.str).length=l.length:=u3k _;conv=>whnf
 refine LoopK.inv QX (fun j:Nat=>⟨[(0,.p (eStrs l)),(5,.p (eStrs l)),(6,.p (.int .i64 (l.map AV.str).length)),(7,.p (.int .i64 j))],[]⟩) (fun j=>j<=l.length∧((List.range l.length).drop j).any (fun i=>(l.take i).any fun s=>l[i]?.getD []==s)=XM l) (fun j=>l.length-j) 0 (Le.of_eq rfl) ⟨u3l _,rfl⟩ ?_;rintro j ⟨h2,h3⟩;conv=>whnf
 repeat' (first|((first|(refine iA fun _=>?_)|refine wI ?_|refine u3d (fun e he=>by obtain ⟨x,_,rfl⟩:=u3s.1 he;rfl) (SlK.mk 0 j rfl rfl (by omega) (by omega) ?_)|(refine CallK.pure (QU (l.take j) (l[j]'(by omega))) (.cons (Sub.of_eq (by simp [eStrs,List.map_take])) (.cons (Sub.refl _) .nil)) ?_;rintro _ rfl));conv=>whnf)|(apply bD<;>intro _<;>first|omega|conv=>whnf)|(apply bB<;>intro _<;>conv=>whnf))
 all_goals try have hr:(List.range l.length)[j]'(by simp;omega)=j:=by simp
 all_goals try have e:l[j]?.getD []=l[j]'(by omega):=by rw [u3h (by omega)];rfl
 ·exact RetK.tt (by rw [<- h3,q1u (p:=fun i=>(l.take i).any fun s=>l[i]?.getD []==s) (by simp;omega) (by rw [hr,e];assumption)])
 ·exact ⟨j+1,⟨by omega,by rw [<- h3,q0u (p:=fun i=>(l.take i).any fun s=>l[i]?.getD []==s) (by simp;omega) (by rw [hr,e];assumption)]⟩,by omega,Le.of_eq rfl⟩
 ·exact RetK.ff (by rw [<- h3,HI (by simp;omega)])
def z3v (f:Pr):List Str:=f.params.map Param.name++f.vars
theorem w6h (f:Pr) (h1:f.params.length<=1000) (h2:f.vars.length<=1000):SpecP prog 192 [.agg f.cells] (fun r=>r=eStrs (z3v f)):=by
 refine sB z4s func192 rfl call192 ?_;conv=>whnf
 refine iM fun _=>?_;have hl:(f.params.map fun a=>AV.agg a.cells).length=f.params.length:=u3k _;conv=>whnf
 refine LoopK.inv QX (fun j:Nat=>⟨[(1,.p (.ip f.cells)),(3,.hd 0 0 j),(7,.p (.sl (f.params.map fun a=>AV.agg a.cells))),(8,.p (.int .i64 (f.params.map fun a=>AV.agg a.cells).length)),(9,.p (.int .i64 j))],[(0,.own 9 1 ((f.params.take j).map fun a=>AV.str a.name))]⟩) (fun j=>j<=f.params.length) (fun j=>f.params.length-j) 0
  (Le.mk [(0,.own 9 1 [])] (by simp [Chunk.new0];rfl) (by simp) (by simp) (.cons (.refl _) (.cons (.nil u3g) (.cons (.refl _) (.cons (.refl _) (.cons (.refl _) .nil))))) (.new u3g .nil)) (u3l _) ?_
 intro j h3;conv=>whnf
 repeat' (first|((first|refine u3d rfl ?_|refine aD ?_|refine bP ?_|(refine iA fun _=>?_)|refine wI ?_|refine u6q (by simp;omega) rfl (by show (j+1)*16<=140737488355328;omega) (by show j+1<=9223372036854775807;omega) (fun x hx=>by rcases u3b.1 hx with rfl;exact ⟨rfl,rfl⟩) ?_|refine u6q (by simp;omega) rfl (by rw [u3k];show (j+f.vars.length)*16<=140737488355328;omega) (by rw [u3k];show j+f.vars.length<=9223372036854775807;omega) (fun x hx=>by obtain ⟨y,_,rfl⟩:=u3s.1 hx;exact ⟨rfl,rfl⟩) ?_);conv=>whnf)|(apply bD<;>intro _<;>first|omega|conv=>whnf))
 ·exact ⟨j+1,by omega,by omega,Le.of_eq (by rw [v1k (by omega)];rfl)⟩
 ·refine ⟨_,.hd rfl (by simp;omega),?_⟩;rw [u3o (by omega)];simp [eStrs,z3v]
mutual
def ZA:S->Nat
 | .mk _ _ _ _ _ _ _ _ thn els=>1+cntL thn+cntL els
def cntL:List S->Nat
 | []=>0
 | s::r=>ZA s+cntL r
end
theorem WK (s:S):ZA s=1+cntL s.thn+cntL s.els:=by
 cases s;rw [ZA];rfl
theorem q3k {l:List S} {j:Nat} (hj:j<l.length):cntL (l.drop j)=ZA l[j]+cntL (l.drop (j+1)):=by
 rw [QF hj,cntL]
theorem z7h {l:List S} {j:Nat} (hj:l.length<=j):cntL (l.drop j)=0:=by
 rw [u4z hj,cntL]
theorem w4u : ∀ (n:Nat) (_:n<=100000) (s:S) (_:ZA s<=n),SpecP prog 247 [.agg s.cells] (fun r=>r = .int .i64 (ZA s)):=by
 intro n;induction n with
 | zero=>intro _ s h;rw [WK] at h;omega
 | succ n ih =>
   intro hn s h;have hs:=WK s;have hl1:=S.avs_len s.thn;have hl2:=S.avs_len s.els;refine sB z4n func247 rfl call247 ?_;conv=>whnf
   repeat' (refine iM fun _=>?_;conv=>whnf)
   refine LoopK.inv QX (fun i:Nat×Nat=>⟨[(1,.p (.ip s.cells)),(3,.p (.int .i64 i.2)),(9,.p (eSs s.thn)),(10,.p (.int .i64 (S.avs s.thn).length)),(11,.p (.int .i64 i.1))],[]⟩) (fun i=>i.1<=s.thn.length∧1<=i.2∧i.2+cntL (s.thn.drop i.1)=1+cntL s.thn) (fun i=>s.thn.length-i.1) (0,1) (Le.of_eq rfl) ⟨u3l _,u4j _,rfl⟩ ?_;rintro ⟨j,a⟩ ⟨h2,h4,h3⟩;simp only at h2 h3 h4 ⊢;have hst : ∀ hj:j<s.thn.length,cntL (s.thn.drop j)=ZA s.thn[j]+cntL (s.thn.drop (j+1)):=fun hj=>q3k hj;conv=>whnf
   repeat' (first|((first|(refine iM fun _=>?_)|refine u3d rfl ?_|refine GZ (by omega) ?_|refine wI ?_|(refine CallK.pure (ih (by omega) (s.thn[j]'(by omega)) (by have:=hst (by omega);omega)) (.cons (Sub.refl _) .nil) ?_;rintro _ rfl;have hst:=hst (by omega)));conv=>whnf)|(apply bD<;>intro _<;>first|omega|conv=>whnf))
   ·exact ⟨(j+1,a+ZA s.thn[j]),⟨by simp only;omega,by simp only;omega,by simp only;omega⟩,by simp only;omega,Le.of_eq rfl⟩
   ·have ha:a=1+cntL s.thn:=by rw [z7h (by omega)] at h3;omega
    refine LoopK.inv QX (fun i:Nat×Nat=>⟨[(3,.p (.int .i64 i.2)),(21,.p (eSs s.els)),(22,.p (.int .i64 (S.avs s.els).length)),(23,.p (.int .i64 i.1))],[]⟩) (fun i=>i.1<=s.els.length∧1<=i.2∧i.2+cntL (s.els.drop i.1)=ZA s) (fun i=>s.els.length-i.1) (0,a) (Le.of_eq rfl) ⟨u3l _,h4,by simp only [List.drop_zero];omega⟩ ?_;rintro ⟨k,b⟩ ⟨h5,h6,h7⟩;simp only at h5 h6 h7 ⊢;have hst2 : ∀ hk:k<s.els.length,cntL (s.els.drop k)=ZA s.els[k]+cntL (s.els.drop (k+1)):=fun hk=>q3k hk;conv=>whnf
    repeat' (first|((first|refine u3d rfl ?_|refine GZ (by omega) ?_|refine wI ?_|(refine CallK.pure (ih (by omega) (s.els[k]'(by omega)) (by have:=hst2 (by omega);omega)) (.cons (Sub.refl _) .nil) ?_;rintro _ rfl;have hst2:=hst2 (by omega)));conv=>whnf)|(apply bD<;>intro _<;>first|omega|conv=>whnf))
    ·exact ⟨(k+1,b+ZA s.els[k]),⟨by simp only;omega,by simp only;omega,by simp only;omega⟩,by simp only;omega,Le.of_eq rfl⟩
    ·exact RetK.int (by rw [z7h (by omega)] at h7;omega)
structure Item where
 s:S
 proc:Int
 up:Int
 next:Int
 loop:Int
def Item.cells (i:Item):List AV:=i.s.cells++[.int .i64 i.proc,.int .i64 i.up,.int .i64 i.next,.int .i64 i.loop]
mutual
def x0j (proc up nx loop:Int) (acc:List Item):S->List Item
 | .mk id kind labels name pr x has args thn els =>
   XA proc (acc.length+1) (if kind=6 then acc.length+1 else nx) (if kind=6 then acc.length+1 else loop)
    (XA proc (acc.length+1) (if kind=6 then acc.length+1 else nx) (if kind=6 then acc.length+1 else loop) (acc++[⟨.mk id kind labels name pr x has args thn els,proc,up,nx,loop⟩]) thn) els
def XA (proc up nx loop:Int) (acc:List Item):List S->List Item
 | []=>acc
 | t::r=>XA proc up nx loop (x0j proc up (if r.isEmpty then nx else acc.length+1+ZA t) loop acc t) r
end
theorem NE (proc up nx loop:Int) (acc:List Item) (t:S):x0j proc up nx loop acc t=XA proc (acc.length+1) (if t.kind=6 then acc.length+1 else nx) (if t.kind=6 then acc.length+1 else loop)
   (XA proc (acc.length+1) (if t.kind=6 then acc.length+1 else nx) (if t.kind=6 then acc.length+1 else loop) (acc++[⟨t,proc,up,nx,loop⟩]) t.thn) t.els:=by
 cases t;rw [x0j];rfl
mutual
theorem ZL (proc up nx loop:Int) (acc:List Item) : ∀ t:S,(x0j proc up nx loop acc t).length=acc.length+ZA t
 | .mk id kind labels name pr x has args thn els=>by
   rw [x0j,ZA,XD _ _ _ _ _ els,XD _ _ _ _ _ thn];simp;omega
theorem XD (proc up nx loop:Int) (acc:List Item) : ∀ l:List S,(XA proc up nx loop acc l).length=acc.length+cntL l
 | []=>by rw [XA,cntL];rfl
 | t::r=>by
   rw [XA,cntL,XD _ _ _ _ _ r,ZL _ _ _ _ _ t];omega
end
theorem UC {proc up nx loop:Int} {acc:List Item} {l:List S} {j:Nat} (hj:j<l.length) :
  XA proc up nx loop acc (l.drop j)=XA proc up nx loop (x0j proc up (if j+1<l.length then acc.length+1+ZA l[j] else nx) loop acc l[j]) (l.drop (j+1)):=by
 rw [QF hj,XA];congr 2;by_cases h:j+1<l.length
 ·rw [if_pos h,if_neg];simp only [List.isEmpty_iff];intro he;have:=u5j List.length he;simp at this;omega
 ·rw [if_neg h,if_pos];rw [u4z (by omega)];rfl
def w6b (tS tI tN:Nat) (gl pr:AV) (L:List Item) (lo hi:List Int):Heap :=
 [(1000,.obj tS [.p gl,.p pr,.hd 2000 0 L.length,.hd 2001 0 lo.length,.hd 2002 0 hi.length]),(2000,.own tI 17 (L.map fun i => .agg i.cells)),(2001,.own tN 1 (lo.map (.int .i64))),(2002,.own tN 1 (hi.map (.int .i64)))]
def X0:X := .mk 0 0 [] []
def S0:S := .mk 0 0 [] [] [] X0 false [] [] []
theorem LSub.agg {cs ds:List AV} (h:SubL cs ds):LSub (.p (.agg cs)) (.p (.agg ds)) := .p (Sub.agg h)
theorem z7t : ∀ (n:Nat) (_:n<=1000) (l:List S) (_:cntL l<n) (acc:List Item) (_:acc.length+cntL l<=1000) (a:Item) (gl pr:AV) (lo hi:List Int),
  SpecH prog 176 [.ptr 1000 0,.p (eSs l),.p (.agg a.cells)] (w6b 154 151 3 gl pr acc lo hi)
   (fun r H=>r = .p (.tup [])∧H=w6b 154 151 3 gl pr (XA a.proc a.up a.next a.loop acc l) lo hi):=by
 intro n;induction n with
 | zero=>intro _ l h;omega
 | succ n ih =>
   intro hn l hl acc hacc a gl pr lo hi;have hl1:=S.avs_len l;refine sH q8s func176 rfl call176 ?_;conv=>whnf
   repeat' (refine iM fun _=>?_;conv=>whnf)
   refine LoopK.inv QX (fun i:Nat×List Item=>⟨[(0,.ptr 1000 0),(1,.p (eSs l)),(5,.p (.ip a.cells)),(11,.p (eSs l)),(12,.p (.int .i64 (S.avs l).length)),(13,.p (.int .i64 i.1))],w6b 154 151 3 gl pr i.2 lo hi⟩) (fun i=>i.1<=l.length∧acc.length<=i.2.length∧i.2.length+cntL (l.drop i.1)=acc.length+cntL l∧XA a.proc a.up a.next a.loop i.2 (l.drop i.1)=XA a.proc a.up a.next a.loop acc l) (fun i=>l.length-i.1) (0,acc) (Le.of_eq rfl) ⟨u3l _,u4j _,rfl,rfl⟩ ?_;rintro ⟨j,b⟩ ⟨h2,h5,h3,h4⟩;simp only at h2 h3 h4 h5 ⊢;have hst : ∀ hj:j<l.length,cntL (l.drop j)=ZA l[j]+cntL (l.drop (j+1)):=fun hj=>q3k hj;conv=>whnf
   repeat' (first|((first|(refine iM fun _=>?_)|refine dA ?_|refine u3d rfl ?_|refine aD ?_|refine bP ?_|refine GZ (by omega) ?_|refine wI ?_|(refine CallK.pure (w4u 1000 (by omega) (l[j]'(by omega)) (by have:=hst (by omega);omega)) (.cons (Sub.refl _) .nil) ?_;rintro _ rfl)|refine Wr.i64 (by have:=hst (by omega);omega) (by have:=hst (by omega);omega) ?_|refine u6q (by simp) rfl (by show (b.length+1)*240<=140737488355328;have:=hst (by omega);omega) (by show b.length+1<=9223372036854775807;have:=hst (by omega);omega) (fun x hx=>by rcases u3b.1 hx with rfl;exact ⟨rfl,rfl⟩) ?_);conv=>whnf)|(apply bD<;>intro _<;>first|omega|conv=>whnf)|(refine u3d ?_ ?_<;>conv=>whnf))
   ·have hj:j<l.length:=by omega
    have hst:=hst hj;have hcs:=WK l[j];refine CallK.heap [(1000,1000),(2000,2000),(2001,2001),(2002,2002)] 0 (by refine u4w (u4v _) (u4w (u4v _) (u4w (LSub.agg ?_) u4s));repeat' (first|exact SubL.nil|refine SubL.cons ?_ ?_|exact Sub.refl _|exact Sub.nils|exact Sub.ff rfl)) (by exact u4x (j:=1000) rfl rfl (CSub.of_eq (by rw [u3f];first|done|rfl)) (u4x (j:=2000) rfl rfl (CSub.of_eq (by rw [u3t];first|done|rfl)) (u4x (j:=2001) rfl rfl (CSub.refl _) (u4x (j:=2002) rfl rfl (CSub.refl _) u4c)))) (ih (by omega) l[j].thn (by omega) (b++[⟨l[j]'hj,a.proc,a.up,(b.length+1+ZA (l[j]'hj):Int),a.loop⟩]) (by rw [u3f];simp only [u4l];omega) ⟨S0,a.proc,b.length+1,(b.length+1:Int),(b.length+1:Int)⟩ gl pr lo hi) rfl rfl ?_;rintro l' H' ⟨rfl,rfl⟩;conv=>whnf
    refine CallK.heap [(1000,1000),(2000,2000),(2001,2001),(2002,2002)] 0 (by refine u4w (u4v _) (u4w (u4v _) (u4w (LSub.agg ?_) u4s));repeat' (first|exact SubL.nil|refine SubL.cons ?_ ?_|exact Sub.refl _|exact Sub.nils|exact Sub.ff rfl)) (by exact u4x (j:=1000) rfl rfl (CSub.refl _) (u4x (j:=2000) rfl rfl (CSub.refl _) (u4x (j:=2001) rfl rfl (CSub.refl _) (u4x (j:=2002) rfl rfl (CSub.refl _) u4c)))) (ih (by omega) l[j].els (by omega) (XA a.proc (b.length+1) (b.length+1:Int) (b.length+1:Int) (b++[⟨l[j]'hj,a.proc,a.up,(b.length+1+ZA (l[j]'hj):Int),a.loop⟩]) (l[j]'hj).thn) (by rw [XD,u3f];simp only [u4l];omega) ⟨S0,a.proc,b.length+1,(b.length+1:Int),(b.length+1:Int)⟩ gl pr lo hi) rfl rfl ?_;rintro l' H' ⟨rfl,rfl⟩;conv=>whnf
    refine wI ?_;conv=>whnf
    have hrow:x0j a.proc a.up (b.length+1+ZA (l[j]'hj):Int) a.loop b l[j]=XA a.proc (b.length+1) (b.length+1:Int) (b.length+1:Int) (XA a.proc (b.length+1) (b.length+1:Int) (b.length+1:Int) (b++[⟨l[j]'hj,a.proc,a.up,(b.length+1+ZA (l[j]'hj):Int),a.loop⟩]) (l[j]'hj).thn) l[j].els:=by
     rw [NE,if_pos (by assumption),if_pos (by assumption)]
    exact ⟨(j+1,x0j a.proc a.up (b.length+1+ZA (l[j]'hj):Int) a.loop b l[j]),⟨by simp only;omega,by simp only;rw [ZL];omega,by simp only;rw [ZL];omega,by simp only;rw [<- h4,UC hj,if_pos (by omega)]⟩,by simp only;omega,Le.of_eq (by simp only;rw [hrow];rfl)⟩
   ·have hj:j<l.length:=by omega
    have hst:=hst hj;have hcs:=WK l[j];refine CallK.heap [(1000,1000),(2000,2000),(2001,2001),(2002,2002)] 0 (by refine u4w (u4v _) (u4w (u4v _) (u4w (LSub.agg ?_) u4s));repeat' (first|exact SubL.nil|refine SubL.cons ?_ ?_|exact Sub.refl _|exact Sub.nils|exact Sub.ff rfl)) (by exact u4x (j:=1000) rfl rfl (CSub.of_eq (by rw [u3f];first|done|rfl)) (u4x (j:=2000) rfl rfl (CSub.of_eq (by rw [u3t];first|done|rfl)) (u4x (j:=2001) rfl rfl (CSub.refl _) (u4x (j:=2002) rfl rfl (CSub.refl _) u4c)))) (ih (by omega) l[j].thn (by omega) (b++[⟨l[j]'hj,a.proc,a.up,(b.length+1+ZA (l[j]'hj):Int),a.loop⟩]) (by rw [u3f];simp only [u4l];omega) ⟨S0,a.proc,b.length+1,(b.length+1+ZA (l[j]'hj):Int),a.loop⟩ gl pr lo hi) rfl rfl ?_;rintro l' H' ⟨rfl,rfl⟩;conv=>whnf
    refine CallK.heap [(1000,1000),(2000,2000),(2001,2001),(2002,2002)] 0 (by refine u4w (u4v _) (u4w (u4v _) (u4w (LSub.agg ?_) u4s));repeat' (first|exact SubL.nil|refine SubL.cons ?_ ?_|exact Sub.refl _|exact Sub.nils|exact Sub.ff rfl)) (by exact u4x (j:=1000) rfl rfl (CSub.refl _) (u4x (j:=2000) rfl rfl (CSub.refl _) (u4x (j:=2001) rfl rfl (CSub.refl _) (u4x (j:=2002) rfl rfl (CSub.refl _) u4c)))) (ih (by omega) l[j].els (by omega) (XA a.proc (b.length+1) (b.length+1+ZA (l[j]'hj):Int) a.loop (b++[⟨l[j]'hj,a.proc,a.up,(b.length+1+ZA (l[j]'hj):Int),a.loop⟩]) (l[j]'hj).thn) (by rw [XD,u3f];simp only [u4l];omega) ⟨S0,a.proc,b.length+1,(b.length+1+ZA (l[j]'hj):Int),a.loop⟩ gl pr lo hi) rfl rfl ?_;rintro l' H' ⟨rfl,rfl⟩;conv=>whnf
    refine wI ?_;conv=>whnf
    have hrow:x0j a.proc a.up (b.length+1+ZA (l[j]'hj):Int) a.loop b l[j]=XA a.proc (b.length+1) (b.length+1+ZA (l[j]'hj):Int) a.loop (XA a.proc (b.length+1) (b.length+1+ZA (l[j]'hj):Int) a.loop (b++[⟨l[j]'hj,a.proc,a.up,(b.length+1+ZA (l[j]'hj):Int),a.loop⟩]) (l[j]'hj).thn) l[j].els:=by
     rw [NE,if_neg (by assumption),if_neg (by assumption)]
    exact ⟨(j+1,x0j a.proc a.up (b.length+1+ZA (l[j]'hj):Int) a.loop b l[j]),⟨by simp only;omega,by simp only;rw [ZL];omega,by simp only;rw [ZL];omega,by simp only;rw [<- h4,UC hj,if_pos (by omega)]⟩,by simp only;omega,Le.of_eq (by simp only;rw [hrow];rfl)⟩
   ·have hj:j<l.length:=by omega
    have hst:=hst hj;have hcs:=WK l[j];refine CallK.heap [(1000,1000),(2000,2000),(2001,2001),(2002,2002)] 0 (by refine u4w (u4v _) (u4w (u4v _) (u4w (LSub.agg ?_) u4s));repeat' (first|exact SubL.nil|refine SubL.cons ?_ ?_|exact Sub.refl _|exact Sub.nils|exact Sub.ff rfl)) (by exact u4x (j:=1000) rfl rfl (CSub.of_eq (by rw [u3f];first|done|rfl)) (u4x (j:=2000) rfl rfl (CSub.of_eq (by rw [u3t];first|done|rfl)) (u4x (j:=2001) rfl rfl (CSub.refl _) (u4x (j:=2002) rfl rfl (CSub.refl _) u4c)))) (ih (by omega) l[j].thn (by omega) (b++[⟨l[j]'hj,a.proc,a.up,(b.length+1+ZA (l[j]'hj):Int),a.loop⟩]) (by rw [u3f];simp only [u4l];omega) ⟨S0,a.proc,b.length+1,(b.length+1:Int),(b.length+1:Int)⟩ gl pr lo hi) rfl rfl ?_;rintro l' H' ⟨rfl,rfl⟩;conv=>whnf
    refine CallK.heap [(1000,1000),(2000,2000),(2001,2001),(2002,2002)] 0 (by refine u4w (u4v _) (u4w (u4v _) (u4w (LSub.agg ?_) u4s));repeat' (first|exact SubL.nil|refine SubL.cons ?_ ?_|exact Sub.refl _|exact Sub.nils|exact Sub.ff rfl)) (by exact u4x (j:=1000) rfl rfl (CSub.refl _) (u4x (j:=2000) rfl rfl (CSub.refl _) (u4x (j:=2001) rfl rfl (CSub.refl _) (u4x (j:=2002) rfl rfl (CSub.refl _) u4c)))) (ih (by omega) l[j].els (by omega) (XA a.proc (b.length+1) (b.length+1:Int) (b.length+1:Int) (b++[⟨l[j]'hj,a.proc,a.up,(b.length+1+ZA (l[j]'hj):Int),a.loop⟩]) (l[j]'hj).thn) (by rw [XD,u3f];simp only [u4l];omega) ⟨S0,a.proc,b.length+1,(b.length+1:Int),(b.length+1:Int)⟩ gl pr lo hi) rfl rfl ?_;rintro l' H' ⟨rfl,rfl⟩;conv=>whnf
    refine wI ?_;conv=>whnf
    have hrow:x0j a.proc a.up (b.length+1+ZA (l[j]'hj):Int) a.loop b l[j]=XA a.proc (b.length+1) (b.length+1:Int) (b.length+1:Int) (XA a.proc (b.length+1) (b.length+1:Int) (b.length+1:Int) (b++[⟨l[j]'hj,a.proc,a.up,(b.length+1+ZA (l[j]'hj):Int),a.loop⟩]) (l[j]'hj).thn) l[j].els:=by
     rw [NE,if_pos (by assumption),if_pos (by assumption)]
    exact ⟨(j+1,x0j a.proc a.up (b.length+1+ZA (l[j]'hj):Int) a.loop b l[j]),⟨by simp only;omega,by simp only;rw [ZL];omega,by simp only;rw [ZL];omega,by simp only;rw [<- h4,UC hj,if_pos (by omega)]⟩,by simp only;omega,Le.of_eq (by simp only;rw [hrow];rfl)⟩
   ·have hj:j<l.length:=by omega
    have hst:=hst hj;have hcs:=WK l[j];refine CallK.heap [(1000,1000),(2000,2000),(2001,2001),(2002,2002)] 0 (by refine u4w (u4v _) (u4w (u4v _) (u4w (LSub.agg ?_) u4s));repeat' (first|exact SubL.nil|refine SubL.cons ?_ ?_|exact Sub.refl _|exact Sub.nils|exact Sub.ff rfl)) (by exact u4x (j:=1000) rfl rfl (CSub.of_eq (by rw [u3f];first|done|rfl)) (u4x (j:=2000) rfl rfl (CSub.of_eq (by rw [u3t];first|done|rfl)) (u4x (j:=2001) rfl rfl (CSub.refl _) (u4x (j:=2002) rfl rfl (CSub.refl _) u4c)))) (ih (by omega) l[j].thn (by omega) (b++[⟨l[j]'hj,a.proc,a.up,(b.length+1+ZA (l[j]'hj):Int),a.loop⟩]) (by rw [u3f];simp only [u4l];omega) ⟨S0,a.proc,b.length+1,(b.length+1+ZA (l[j]'hj):Int),a.loop⟩ gl pr lo hi) rfl rfl ?_;rintro l' H' ⟨rfl,rfl⟩;conv=>whnf
    refine CallK.heap [(1000,1000),(2000,2000),(2001,2001),(2002,2002)] 0 (by refine u4w (u4v _) (u4w (u4v _) (u4w (LSub.agg ?_) u4s));repeat' (first|exact SubL.nil|refine SubL.cons ?_ ?_|exact Sub.refl _|exact Sub.nils|exact Sub.ff rfl)) (by exact u4x (j:=1000) rfl rfl (CSub.refl _) (u4x (j:=2000) rfl rfl (CSub.refl _) (u4x (j:=2001) rfl rfl (CSub.refl _) (u4x (j:=2002) rfl rfl (CSub.refl _) u4c)))) (ih (by omega) l[j].els (by omega) (XA a.proc (b.length+1) (b.length+1+ZA (l[j]'hj):Int) a.loop (b++[⟨l[j]'hj,a.proc,a.up,(b.length+1+ZA (l[j]'hj):Int),a.loop⟩]) (l[j]'hj).thn) (by rw [XD,u3f];simp only [u4l];omega) ⟨S0,a.proc,b.length+1,(b.length+1+ZA (l[j]'hj):Int),a.loop⟩ gl pr lo hi) rfl rfl ?_;rintro l' H' ⟨rfl,rfl⟩;conv=>whnf
    refine wI ?_;conv=>whnf
    have hrow:x0j a.proc a.up (b.length+1+ZA (l[j]'hj):Int) a.loop b l[j]=XA a.proc (b.length+1) (b.length+1+ZA (l[j]'hj):Int) a.loop (XA a.proc (b.length+1) (b.length+1+ZA (l[j]'hj):Int) a.loop (b++[⟨l[j]'hj,a.proc,a.up,(b.length+1+ZA (l[j]'hj):Int),a.loop⟩]) (l[j]'hj).thn) l[j].els:=by
     rw [NE,if_neg (by assumption),if_neg (by assumption)]
    exact ⟨(j+1,x0j a.proc a.up (b.length+1+ZA (l[j]'hj):Int) a.loop b l[j]),⟨by simp only;omega,by simp only;rw [ZL];omega,by simp only;rw [ZL];omega,by simp only;rw [<- h4,UC hj,if_pos (by omega)]⟩,by simp only;omega,Le.of_eq (by simp only;rw [hrow];rfl)⟩
   ·have hj:j<l.length:=by omega
    have hst:=hst hj;have hcs:=WK l[j];refine CallK.heap [(1000,1000),(2000,2000),(2001,2001),(2002,2002)] 0 (by refine u4w (u4v _) (u4w (u4v _) (u4w (LSub.agg ?_) u4s));repeat' (first|exact SubL.nil|refine SubL.cons ?_ ?_|exact Sub.refl _|exact Sub.nils|exact Sub.ff rfl)) (by exact u4x (j:=1000) rfl rfl (CSub.of_eq (by rw [u3f];first|done|rfl)) (u4x (j:=2000) rfl rfl (CSub.of_eq (by rw [u3t];first|done|rfl)) (u4x (j:=2001) rfl rfl (CSub.refl _) (u4x (j:=2002) rfl rfl (CSub.refl _) u4c)))) (ih (by omega) l[j].thn (by omega) (b++[⟨l[j]'hj,a.proc,a.up,a.next,a.loop⟩]) (by rw [u3f];simp only [u4l];omega) ⟨S0,a.proc,b.length+1,(b.length+1:Int),(b.length+1:Int)⟩ gl pr lo hi) rfl rfl ?_;rintro l' H' ⟨rfl,rfl⟩;conv=>whnf
    refine CallK.heap [(1000,1000),(2000,2000),(2001,2001),(2002,2002)] 0 (by refine u4w (u4v _) (u4w (u4v _) (u4w (LSub.agg ?_) u4s));repeat' (first|exact SubL.nil|refine SubL.cons ?_ ?_|exact Sub.refl _|exact Sub.nils|exact Sub.ff rfl)) (by exact u4x (j:=1000) rfl rfl (CSub.refl _) (u4x (j:=2000) rfl rfl (CSub.refl _) (u4x (j:=2001) rfl rfl (CSub.refl _) (u4x (j:=2002) rfl rfl (CSub.refl _) u4c)))) (ih (by omega) l[j].els (by omega) (XA a.proc (b.length+1) (b.length+1:Int) (b.length+1:Int) (b++[⟨l[j]'hj,a.proc,a.up,a.next,a.loop⟩]) (l[j]'hj).thn) (by rw [XD,u3f];simp only [u4l];omega) ⟨S0,a.proc,b.length+1,(b.length+1:Int),(b.length+1:Int)⟩ gl pr lo hi) rfl rfl ?_;rintro l' H' ⟨rfl,rfl⟩;conv=>whnf
    refine wI ?_;conv=>whnf
    have hrow:x0j a.proc a.up a.next a.loop b l[j]=XA a.proc (b.length+1) (b.length+1:Int) (b.length+1:Int) (XA a.proc (b.length+1) (b.length+1:Int) (b.length+1:Int) (b++[⟨l[j]'hj,a.proc,a.up,a.next,a.loop⟩]) (l[j]'hj).thn) l[j].els:=by
     rw [NE,if_pos (by assumption),if_pos (by assumption)]
    exact ⟨(j+1,x0j a.proc a.up a.next a.loop b l[j]),⟨by simp only;omega,by simp only;rw [ZL];omega,by simp only;rw [ZL];omega,by simp only;rw [<- h4,UC hj,if_neg (by omega)]⟩,by simp only;omega,Le.of_eq (by simp only;rw [hrow];rfl)⟩
   ·have hj:j<l.length:=by omega
    have hst:=hst hj;have hcs:=WK l[j];refine CallK.heap [(1000,1000),(2000,2000),(2001,2001),(2002,2002)] 0 (by refine u4w (u4v _) (u4w (u4v _) (u4w (LSub.agg ?_) u4s));repeat' (first|exact SubL.nil|refine SubL.cons ?_ ?_|exact Sub.refl _|exact Sub.nils|exact Sub.ff rfl)) (by exact u4x (j:=1000) rfl rfl (CSub.of_eq (by rw [u3f];first|done|rfl)) (u4x (j:=2000) rfl rfl (CSub.of_eq (by rw [u3t];first|done|rfl)) (u4x (j:=2001) rfl rfl (CSub.refl _) (u4x (j:=2002) rfl rfl (CSub.refl _) u4c)))) (ih (by omega) l[j].thn (by omega) (b++[⟨l[j]'hj,a.proc,a.up,a.next,a.loop⟩]) (by rw [u3f];simp only [u4l];omega) ⟨S0,a.proc,b.length+1,a.next,a.loop⟩ gl pr lo hi) rfl rfl ?_;rintro l' H' ⟨rfl,rfl⟩;conv=>whnf
    refine CallK.heap [(1000,1000),(2000,2000),(2001,2001),(2002,2002)] 0 (by refine u4w (u4v _) (u4w (u4v _) (u4w (LSub.agg ?_) u4s));repeat' (first|exact SubL.nil|refine SubL.cons ?_ ?_|exact Sub.refl _|exact Sub.nils|exact Sub.ff rfl)) (by exact u4x (j:=1000) rfl rfl (CSub.refl _) (u4x (j:=2000) rfl rfl (CSub.refl _) (u4x (j:=2001) rfl rfl (CSub.refl _) (u4x (j:=2002) rfl rfl (CSub.refl _) u4c)))) (ih (by omega) l[j].els (by omega) (XA a.proc (b.length+1) a.next a.loop (b++[⟨l[j]'hj,a.proc,a.up,a.next,a.loop⟩]) (l[j]'hj).thn) (by rw [XD,u3f];simp only [u4l];omega) ⟨S0,a.proc,b.length+1,a.next,a.loop⟩ gl pr lo hi) rfl rfl ?_;rintro l' H' ⟨rfl,rfl⟩;conv=>whnf
    refine wI ?_;conv=>whnf
    have hrow:x0j a.proc a.up a.next a.loop b l[j]=XA a.proc (b.length+1) a.next a.loop (XA a.proc (b.length+1) a.next a.loop (b++[⟨l[j]'hj,a.proc,a.up,a.next,a.loop⟩]) (l[j]'hj).thn) l[j].els:=by
     rw [NE,if_neg (by assumption),if_neg (by assumption)]
    exact ⟨(j+1,x0j a.proc a.up a.next a.loop b l[j]),⟨by simp only;omega,by simp only;rw [ZL];omega,by simp only;rw [ZL];omega,by simp only;rw [<- h4,UC hj,if_neg (by omega)]⟩,by simp only;omega,Le.of_eq (by simp only;rw [hrow];rfl)⟩
   ·have hj:j<l.length:=by omega
    have hst:=hst hj;have hcs:=WK l[j];refine CallK.heap [(1000,1000),(2000,2000),(2001,2001),(2002,2002)] 0 (by refine u4w (u4v _) (u4w (u4v _) (u4w (LSub.agg ?_) u4s));repeat' (first|exact SubL.nil|refine SubL.cons ?_ ?_|exact Sub.refl _|exact Sub.nils|exact Sub.ff rfl)) (by exact u4x (j:=1000) rfl rfl (CSub.of_eq (by rw [u3f];first|done|rfl)) (u4x (j:=2000) rfl rfl (CSub.of_eq (by rw [u3t];first|done|rfl)) (u4x (j:=2001) rfl rfl (CSub.refl _) (u4x (j:=2002) rfl rfl (CSub.refl _) u4c)))) (ih (by omega) l[j].thn (by omega) (b++[⟨l[j]'hj,a.proc,a.up,a.next,a.loop⟩]) (by rw [u3f];simp only [u4l];omega) ⟨S0,a.proc,b.length+1,(b.length+1:Int),(b.length+1:Int)⟩ gl pr lo hi) rfl rfl ?_;rintro l' H' ⟨rfl,rfl⟩;conv=>whnf
    refine CallK.heap [(1000,1000),(2000,2000),(2001,2001),(2002,2002)] 0 (by refine u4w (u4v _) (u4w (u4v _) (u4w (LSub.agg ?_) u4s));repeat' (first|exact SubL.nil|refine SubL.cons ?_ ?_|exact Sub.refl _|exact Sub.nils|exact Sub.ff rfl)) (by exact u4x (j:=1000) rfl rfl (CSub.refl _) (u4x (j:=2000) rfl rfl (CSub.refl _) (u4x (j:=2001) rfl rfl (CSub.refl _) (u4x (j:=2002) rfl rfl (CSub.refl _) u4c)))) (ih (by omega) l[j].els (by omega) (XA a.proc (b.length+1) (b.length+1:Int) (b.length+1:Int) (b++[⟨l[j]'hj,a.proc,a.up,a.next,a.loop⟩]) (l[j]'hj).thn) (by rw [XD,u3f];simp only [u4l];omega) ⟨S0,a.proc,b.length+1,(b.length+1:Int),(b.length+1:Int)⟩ gl pr lo hi) rfl rfl ?_;rintro l' H' ⟨rfl,rfl⟩;conv=>whnf
    refine wI ?_;conv=>whnf
    have hrow:x0j a.proc a.up a.next a.loop b l[j]=XA a.proc (b.length+1) (b.length+1:Int) (b.length+1:Int) (XA a.proc (b.length+1) (b.length+1:Int) (b.length+1:Int) (b++[⟨l[j]'hj,a.proc,a.up,a.next,a.loop⟩]) (l[j]'hj).thn) l[j].els:=by
     rw [NE,if_pos (by assumption),if_pos (by assumption)]
    exact ⟨(j+1,x0j a.proc a.up a.next a.loop b l[j]),⟨by simp only;omega,by simp only;rw [ZL];omega,by simp only;rw [ZL];omega,by simp only;rw [<- h4,UC hj,if_neg (by omega)]⟩,by simp only;omega,Le.of_eq (by simp only;rw [hrow];rfl)⟩
   ·have hj:j<l.length:=by omega
    have hst:=hst hj;have hcs:=WK l[j];refine CallK.heap [(1000,1000),(2000,2000),(2001,2001),(2002,2002)] 0 (by refine u4w (u4v _) (u4w (u4v _) (u4w (LSub.agg ?_) u4s));repeat' (first|exact SubL.nil|refine SubL.cons ?_ ?_|exact Sub.refl _|exact Sub.nils|exact Sub.ff rfl)) (by exact u4x (j:=1000) rfl rfl (CSub.of_eq (by rw [u3f];first|done|rfl)) (u4x (j:=2000) rfl rfl (CSub.of_eq (by rw [u3t];first|done|rfl)) (u4x (j:=2001) rfl rfl (CSub.refl _) (u4x (j:=2002) rfl rfl (CSub.refl _) u4c)))) (ih (by omega) l[j].thn (by omega) (b++[⟨l[j]'hj,a.proc,a.up,a.next,a.loop⟩]) (by rw [u3f];simp only [u4l];omega) ⟨S0,a.proc,b.length+1,a.next,a.loop⟩ gl pr lo hi) rfl rfl ?_;rintro l' H' ⟨rfl,rfl⟩;conv=>whnf
    refine CallK.heap [(1000,1000),(2000,2000),(2001,2001),(2002,2002)] 0 (by refine u4w (u4v _) (u4w (u4v _) (u4w (LSub.agg ?_) u4s));repeat' (first|exact SubL.nil|refine SubL.cons ?_ ?_|exact Sub.refl _|exact Sub.nils|exact Sub.ff rfl)) (by exact u4x (j:=1000) rfl rfl (CSub.refl _) (u4x (j:=2000) rfl rfl (CSub.refl _) (u4x (j:=2001) rfl rfl (CSub.refl _) (u4x (j:=2002) rfl rfl (CSub.refl _) u4c)))) (ih (by omega) l[j].els (by omega) (XA a.proc (b.length+1) a.next a.loop (b++[⟨l[j]'hj,a.proc,a.up,a.next,a.loop⟩]) (l[j]'hj).thn) (by rw [XD,u3f];simp only [u4l];omega) ⟨S0,a.proc,b.length+1,a.next,a.loop⟩ gl pr lo hi) rfl rfl ?_;rintro l' H' ⟨rfl,rfl⟩;conv=>whnf
    refine wI ?_;conv=>whnf
    have hrow:x0j a.proc a.up a.next a.loop b l[j]=XA a.proc (b.length+1) a.next a.loop (XA a.proc (b.length+1) a.next a.loop (b++[⟨l[j]'hj,a.proc,a.up,a.next,a.loop⟩]) (l[j]'hj).thn) l[j].els:=by
     rw [NE,if_neg (by assumption),if_neg (by assumption)]
    exact ⟨(j+1,x0j a.proc a.up a.next a.loop b l[j]),⟨by simp only;omega,by simp only;rw [ZL];omega,by simp only;rw [ZL];omega,by simp only;rw [<- h4,UC hj,if_neg (by omega)]⟩,by simp only;omega,Le.of_eq (by simp only;rw [hrow];rfl)⟩
   ·refine ⟨_,.refl _,rfl,?_⟩;rw [u4z (by omega),XA] at h4;rw [<- h4];rfl
end Go.Ab
