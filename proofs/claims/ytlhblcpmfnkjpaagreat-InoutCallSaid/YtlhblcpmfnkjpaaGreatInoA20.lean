/- inout: what statements define and use, what goes in and out. -/
import Derived.Test.YtlhblcpmfnkjpaaGreatInoA4
import Derived.Test.YtlhblcpmfnkjpaaGreatInoA14
import Derived.Test.YtlhblcpmfnkjpaaGreatInoA16
import Derived.Test.YtlhblcpmfnkjpaaGreatInoA17
import Derived.Test.YtlhblcpmfnkjpaaGreatInoA18
import Derived.Test.YtlhblcpmfnkjpaaGreatInoA19
set_option linter.unusedSimpArgs false
set_option linter.unusedVariables false
set_option maxRecDepth 100000
set_option maxHeartbeats 16000000
open List (length_map)
namespace Go.Ab
open Go.Proofs
def q2u (p:Pg) (n:Str):Int:=q0y (fun f=>f.name==n) p.procs
noncomputable def KU (p:Pg) (n:Str):List Str:=if QO p=true∧0<=q2u p n then (QT p).outs.getD (q2u p n).toNat [] else []
noncomputable def z1p (p:Pg) (n:Str):List Str:=if QO p=true∧0<=q2u p n then (QT p).ins.getD (q2u p n).toNat [] else []
noncomputable def q6w (p:Pg) (id:Int):List Str:=if QO p=true∧1<=id∧id<=(sheetOf p).l.length then (QT p).defs.getD (id-1).toNat [] else []
noncomputable def x7o (p:Pg) (id:Int):List Str:=if QO p=true∧1<=id∧id<=(sheetOf p).l.length then (QT p).uses.getD (id-1).toNat [] else []
theorem z6g {p:Pg} {n:Str} (h:0<=q2u p n):(q2u p n).toNat<p.procs.length:=by
 unfold q2u q0y at h ⊢;cases hq:p.procs.any fun f=>f.name==n with
 | true =>
   rw [cond_true];obtain ⟨x,h1,h2⟩:=List.any_eq_true.1 hq;have:=List.findIdx_lt_length_of_exists (p:=fun f:Pr=>f.name==n) ⟨x,h1,h2⟩;simpa using this
 | false =>
   rw [hq,cond_false] at h;omega
theorem x1n {O:List (List Str)} {k:Nat} (h:k<O.length):(O.map eStrs)[k]? = some (eStrs (O.getD k [])):=by
 rw [List.getElem?_map,List.getD_eq_getElem?_getD,List.getElem?_eq_getElem h];rfl
theorem DS (p:Pg) (hf:Fit p) (n:Str):SpecP Tryz.prog 23 [.agg p.cells,.str n] (fun r=>r=eStrs (KU p n)):=by
 refine sB x6g Tryz.func23 rfl Tryz.call23 ?_;conv=>whnf
 have hB:=q4g p hf;cases hc:QO p with
 | false =>
   have e:KU p n=[]:=by unfold KU;rw [if_neg (by rw [hc];simp)]
   rw [e];have hB2:=hB.mono (R':=fun r=>r = .nilp) fun r hr=>hr.2 hc;repeat' (first|((first|(refine iM fun _=>?_)|refine dA ?_|refine And.intro rfl ?_|refine aD ?_|refine aR ?_|refine bP ?_|(refine iA fun _=>?_)|refine IdxK.xs (by omega) ?_|refine QX (by omega) ?_|(refine ByteK.at (by omega) ?_)|refine wI ?_|refine cP hB2 ?_);conv=>whnf)|(apply bD<;>intro _<;>first|omega|conv=>whnf)|(apply bE<;>intro _<;>first|omega|conv=>whnf)|(apply bN<;>intro _<;>conv=>whnf)|(apply bB<;>intro _<;>conv=>whnf))
   all_goals first
    | contradiction
    | exact ⟨_,.p Sub.nils,rfl⟩
    | trace_state
 | true =>
   have hB2:=hB.mono (R':=fun r=>r = .ip (QT p).cells) fun r hr=>hr.1 hc;have hR:=BS hc;have hO:=(z6j hc).1.len;have hs:(QT p).s.p=p:=by rw [hR.s];exact (QJ p).1
   have hPr:=XL (QT p).s n;rw [hs] at hPr;have hPr2:SpecP Tryz.prog 86 [.ip (QT p).s.cells,.str n] (fun r=>r = .int .i64 (q2u p n)):=hPr;have hlt:=fun h=>z6g (p:=p) (n:=n) h;have hg:=fun h=>x1n (O:=(QT p).outs) (k:=(q2u p n).toNat) (by rw [hO];exact hlt h);have e:KU p n=if 0<=q2u p n then (QT p).outs.getD (q2u p n).toNat [] else []:=by
    unfold KU;by_cases h0:0<=q2u p n
    ·rw [if_pos ⟨hc,h0⟩,if_pos h0]
    ·rw [if_neg (fun h=>h0 h.2),if_neg h0]
   rw [e];generalize q2u p n=i at *
   generalize QT p=b at *
   by_cases h0:0<=i
   ·rw [if_pos h0];have hg:=hg h0;repeat' (first|((first|(refine iM fun _=>?_)|refine dA ?_|refine And.intro rfl ?_|refine aD ?_|refine aR ?_|refine bP ?_|(refine iA fun _=>?_)|refine IdxK.xs (by omega) ?_|refine QX (by omega) ?_|(refine ByteK.at (by omega) ?_)|refine wI ?_|refine cP hB2 ?_|refine cP hPr2 ?_|(refine IdxK.at (k:=i.toNat) (by omega) hg rfl ?_));conv=>whnf)|(apply bD<;>intro _<;>first|omega|conv=>whnf)|(apply bE<;>intro _<;>first|omega|conv=>whnf)|(apply bN<;>intro _<;>conv=>whnf)|(apply bB<;>intro _<;>conv=>whnf)|(refine And.intro ?_ ?_<;>conv=>whnf))
    all_goals first
     | contradiction
     | exact RetK.p rfl
     | exact ⟨_,.p (Sub.refl _),rfl⟩
     | trace_state
   ·rw [if_neg h0];repeat' (first|((first|(refine iM fun _=>?_)|refine dA ?_|refine And.intro rfl ?_|refine aD ?_|refine aR ?_|refine bP ?_|(refine iA fun _=>?_)|refine IdxK.xs (by omega) ?_|refine QX (by omega) ?_|(refine ByteK.at (by omega) ?_)|refine wI ?_|refine cP hB2 ?_|refine cP hPr2 ?_);conv=>whnf)|(apply bD<;>intro _<;>first|omega|conv=>whnf)|(apply bE<;>intro _<;>first|omega|conv=>whnf)|(apply bN<;>intro _<;>conv=>whnf)|(apply bB<;>intro _<;>conv=>whnf)|(refine And.intro ?_ ?_<;>conv=>whnf))
    all_goals first
     | contradiction
     | exact ⟨_,.p Sub.nils,rfl⟩
     | trace_state
theorem x4y (p:Pg) (hf:Fit p) (n:Str):SpecP Tryz.prog 21 [.agg p.cells,.str n] (fun r=>r=eStrs (z1p p n)):=by
 refine sB x8y Tryz.func21 rfl Tryz.call21 ?_;conv=>whnf
 have hB:=q4g p hf;cases hc:QO p with
 | false =>
   have e:z1p p n=[]:=by unfold z1p;rw [if_neg (by rw [hc];simp)]
   rw [e];have hB2:=hB.mono (R':=fun r=>r = .nilp) fun r hr=>hr.2 hc;repeat' (first|((first|(refine iM fun _=>?_)|refine dA ?_|refine And.intro rfl ?_|refine aD ?_|refine aR ?_|refine bP ?_|(refine iA fun _=>?_)|refine IdxK.xs (by omega) ?_|refine QX (by omega) ?_|(refine ByteK.at (by omega) ?_)|refine wI ?_|refine cP hB2 ?_);conv=>whnf)|(apply bD<;>intro _<;>first|omega|conv=>whnf)|(apply bE<;>intro _<;>first|omega|conv=>whnf)|(apply bN<;>intro _<;>conv=>whnf)|(apply bB<;>intro _<;>conv=>whnf))
   all_goals first
    | contradiction
    | exact ⟨_,.p Sub.nils,rfl⟩
    | trace_state
 | true =>
   have hB2:=hB.mono (R':=fun r=>r = .ip (QT p).cells) fun r hr=>hr.1 hc;have hR:=BS hc;have hO:=(z6j hc).2.len;have hs:(QT p).s.p=p:=by rw [hR.s];exact (QJ p).1
   have hPr:=XL (QT p).s n;rw [hs] at hPr;have hPr2:SpecP Tryz.prog 86 [.ip (QT p).s.cells,.str n] (fun r=>r = .int .i64 (q2u p n)):=hPr;have hlt:=fun h=>z6g (p:=p) (n:=n) h;have hg:=fun h=>x1n (O:=(QT p).ins) (k:=(q2u p n).toNat) (by rw [hO];exact hlt h);have e:z1p p n=if 0<=q2u p n then (QT p).ins.getD (q2u p n).toNat [] else []:=by
    unfold z1p;by_cases h0:0<=q2u p n
    ·rw [if_pos ⟨hc,h0⟩,if_pos h0]
    ·rw [if_neg (fun h=>h0 h.2),if_neg h0]
   rw [e];generalize q2u p n=i at *
   generalize QT p=b at *
   by_cases h0:0<=i
   ·rw [if_pos h0];have hg:=hg h0;repeat' (first|((first|(refine iM fun _=>?_)|refine dA ?_|refine And.intro rfl ?_|refine aD ?_|refine aR ?_|refine bP ?_|(refine iA fun _=>?_)|refine IdxK.xs (by omega) ?_|refine QX (by omega) ?_|(refine ByteK.at (by omega) ?_)|refine wI ?_|refine cP hB2 ?_|refine cP hPr2 ?_|(refine IdxK.at (k:=i.toNat) (by omega) hg rfl ?_));conv=>whnf)|(apply bD<;>intro _<;>first|omega|conv=>whnf)|(apply bE<;>intro _<;>first|omega|conv=>whnf)|(apply bN<;>intro _<;>conv=>whnf)|(apply bB<;>intro _<;>conv=>whnf)|(refine And.intro ?_ ?_<;>conv=>whnf))
    all_goals first
     | contradiction
     | exact RetK.p rfl
     | exact ⟨_,.p (Sub.refl _),rfl⟩
     | trace_state
   ·rw [if_neg h0];repeat' (first|((first|(refine iM fun _=>?_)|refine dA ?_|refine And.intro rfl ?_|refine aD ?_|refine aR ?_|refine bP ?_|(refine iA fun _=>?_)|refine IdxK.xs (by omega) ?_|refine QX (by omega) ?_|(refine ByteK.at (by omega) ?_)|refine wI ?_|refine cP hB2 ?_|refine cP hPr2 ?_);conv=>whnf)|(apply bD<;>intro _<;>first|omega|conv=>whnf)|(apply bE<;>intro _<;>first|omega|conv=>whnf)|(apply bN<;>intro _<;>conv=>whnf)|(apply bB<;>intro _<;>conv=>whnf)|(refine And.intro ?_ ?_<;>conv=>whnf))
    all_goals first
     | contradiction
     | exact ⟨_,.p Sub.nils,rfl⟩
     | trace_state
theorem q9m (p:Pg) (hf:Fit p) (id:Int):SpecP Tryz.prog 27 [.agg p.cells,.int .i64 id] (fun r=>r=eStrs (q6w p id)):=by
 refine sB x6e Tryz.func27 rfl Tryz.call27 ?_;conv=>whnf
 have hB:=q4g p hf;cases hc:QO p with
 | false =>
   have e:q6w p id=[]:=by unfold q6w;rw [if_neg (by rw [hc];simp)]
   rw [e];have hB2:=hB.mono (R':=fun r=>r = .nilp) fun r hr=>hr.2 hc;repeat' (first|((first|(refine iM fun _=>?_)|refine dA ?_|refine And.intro rfl ?_|refine aD ?_|refine aR ?_|refine bP ?_|(refine iA fun _=>?_)|refine IdxK.xs (by omega) ?_|refine QX (by omega) ?_|(refine ByteK.at (by omega) ?_)|refine wI ?_|refine cP hB2 ?_);conv=>whnf)|(apply bD<;>intro _<;>first|omega|conv=>whnf)|(apply bE<;>intro _<;>first|omega|conv=>whnf)|(apply bN<;>intro _<;>conv=>whnf)|(apply bB<;>intro _<;>conv=>whnf))
   all_goals first
    | contradiction
    | exact ⟨_,.p Sub.nils,rfl⟩
    | trace_state
 | true =>
   have hB2:=hB.mono (R':=fun r=>r = .ip (QT p).cells) fun r hr=>hr.1 hc;have hR:=BS hc;have hD:(QT p).defs.length=(sheetOf p).l.length:=by rw [hR.defs];exact length_map _
   have hcn:=(ZZ hc).2.2;obtain ⟨_,_,_,hsl,_⟩:=QJ p;have hH:SpecP Tryz.prog 93 [.ip (QT p).s.cells,.int .i64 id] (fun r=>r = .bool (decide (1<=id)&&decide (id<=(sheetOf p).l.length))):=by
    have h1:=BH (QT p).s id;rw [show (QT p).s.l=(sheetOf p).l by rw [hR.s]] at h1;exact h1
   have hg:=fun h=>x1n (O:=(QT p).defs) (k:=(id-1).toNat) h;have e:q6w p id=if 1<=id∧id<=(sheetOf p).l.length then (QT p).defs.getD (id-1).toNat [] else []:=by
    unfold q6w;by_cases h0:1<=id∧id<=(sheetOf p).l.length
    ·rw [if_pos ⟨hc,h0⟩,if_pos h0]
    ·rw [if_neg (fun h=>h0 h.2),if_neg h0]
   rw [e];generalize (sheetOf p).l.length=sl at *
   generalize QT p=b at *
   by_cases h0:1<=id∧id<=(sl:Int)
   ·rw [if_pos h0];rw [show (decide (1<=id)&&decide (id<=(sl:Int)))=true by simp [h0]] at hH;have hg:=hg (by omega);repeat' (first|((first|(refine iM fun _=>?_)|refine dA ?_|refine And.intro rfl ?_|refine aD ?_|refine aR ?_|refine bP ?_|(refine iA fun _=>?_)|refine IdxK.xs (by omega) ?_|refine QX (by omega) ?_|(refine ByteK.at (by omega) ?_)|refine wI ?_|refine cP hB2 ?_|refine cP hH ?_|(refine IdxK.at (k:=(id-1).toNat) (by omega) hg rfl ?_));conv=>whnf)|(apply bD<;>intro _<;>first|omega|conv=>whnf)|(apply bE<;>intro _<;>first|omega|conv=>whnf)|(apply bN<;>intro _<;>conv=>whnf)|(apply bB<;>intro _<;>conv=>whnf)|(refine And.intro ?_ ?_<;>conv=>whnf))
    all_goals first
     | contradiction
     | exact RetK.p rfl
     | exact ⟨_,.p (Sub.refl _),rfl⟩
     | trace_state
   ·rw [if_neg h0];rw [show (decide (1<=id)&&decide (id<=(sl:Int)))=false by rw [Bool.and_eq_false_iff,decide_eq_false_iff_not,decide_eq_false_iff_not];omega] at hH;repeat' (first|((first|(refine iM fun _=>?_)|refine dA ?_|refine And.intro rfl ?_|refine aD ?_|refine aR ?_|refine bP ?_|(refine iA fun _=>?_)|refine IdxK.xs (by omega) ?_|refine QX (by omega) ?_|(refine ByteK.at (by omega) ?_)|refine wI ?_|refine cP hB2 ?_|refine cP hH ?_);conv=>whnf)|(apply bD<;>intro _<;>first|omega|conv=>whnf)|(apply bE<;>intro _<;>first|omega|conv=>whnf)|(apply bN<;>intro _<;>conv=>whnf)|(apply bB<;>intro _<;>conv=>whnf)|(refine And.intro ?_ ?_<;>conv=>whnf))
    all_goals first
     | contradiction
     | exact ⟨_,.p Sub.nils,rfl⟩
     | trace_state
theorem z3g (p:Pg) (hf:Fit p) (id:Int):SpecP Tryz.prog 28 [.agg p.cells,.int .i64 id] (fun r=>r=eStrs (x7o p id)):=by
 refine sB x6i Tryz.func28 rfl Tryz.call28 ?_;conv=>whnf
 have hB:=q4g p hf;cases hc:QO p with
 | false =>
   have e:x7o p id=[]:=by unfold x7o;rw [if_neg (by rw [hc];simp)]
   rw [e];have hB2:=hB.mono (R':=fun r=>r = .nilp) fun r hr=>hr.2 hc;repeat' (first|((first|(refine iM fun _=>?_)|refine dA ?_|refine And.intro rfl ?_|refine aD ?_|refine aR ?_|refine bP ?_|(refine iA fun _=>?_)|refine IdxK.xs (by omega) ?_|refine QX (by omega) ?_|(refine ByteK.at (by omega) ?_)|refine wI ?_|refine cP hB2 ?_);conv=>whnf)|(apply bD<;>intro _<;>first|omega|conv=>whnf)|(apply bE<;>intro _<;>first|omega|conv=>whnf)|(apply bN<;>intro _<;>conv=>whnf)|(apply bB<;>intro _<;>conv=>whnf))
   all_goals first
    | contradiction
    | exact ⟨_,.p Sub.nils,rfl⟩
    | trace_state
 | true =>
   have hB2:=hB.mono (R':=fun r=>r = .ip (QT p).cells) fun r hr=>hr.1 hc;have hR:=BS hc;have hD:(QT p).uses.length=(sheetOf p).l.length:=by rw [hR.uses];exact length_map _
   have hcn:=(ZZ hc).2.2;obtain ⟨_,_,_,hsl,_⟩:=QJ p;have hH:SpecP Tryz.prog 93 [.ip (QT p).s.cells,.int .i64 id] (fun r=>r = .bool (decide (1<=id)&&decide (id<=(sheetOf p).l.length))):=by
    have h1:=BH (QT p).s id;rw [show (QT p).s.l=(sheetOf p).l by rw [hR.s]] at h1;exact h1
   have hg:=fun h=>x1n (O:=(QT p).uses) (k:=(id-1).toNat) h;have e:x7o p id=if 1<=id∧id<=(sheetOf p).l.length then (QT p).uses.getD (id-1).toNat [] else []:=by
    unfold x7o;by_cases h0:1<=id∧id<=(sheetOf p).l.length
    ·rw [if_pos ⟨hc,h0⟩,if_pos h0]
    ·rw [if_neg (fun h=>h0 h.2),if_neg h0]
   rw [e];generalize (sheetOf p).l.length=sl at *
   generalize QT p=b at *
   by_cases h0:1<=id∧id<=(sl:Int)
   ·rw [if_pos h0];rw [show (decide (1<=id)&&decide (id<=(sl:Int)))=true by simp [h0]] at hH;have hg:=hg (by omega);repeat' (first|((first|(refine iM fun _=>?_)|refine dA ?_|refine And.intro rfl ?_|refine aD ?_|refine aR ?_|refine bP ?_|(refine iA fun _=>?_)|refine IdxK.xs (by omega) ?_|refine QX (by omega) ?_|(refine ByteK.at (by omega) ?_)|refine wI ?_|refine cP hB2 ?_|refine cP hH ?_|(refine IdxK.at (k:=(id-1).toNat) (by omega) hg rfl ?_));conv=>whnf)|(apply bD<;>intro _<;>first|omega|conv=>whnf)|(apply bE<;>intro _<;>first|omega|conv=>whnf)|(apply bN<;>intro _<;>conv=>whnf)|(apply bB<;>intro _<;>conv=>whnf)|(refine And.intro ?_ ?_<;>conv=>whnf))
    all_goals first
     | contradiction
     | exact RetK.p rfl
     | exact ⟨_,.p (Sub.refl _),rfl⟩
     | trace_state
   ·rw [if_neg h0];rw [show (decide (1<=id)&&decide (id<=(sl:Int)))=false by rw [Bool.and_eq_false_iff,decide_eq_false_iff_not,decide_eq_false_iff_not];omega] at hH;repeat' (first|((first|(refine iM fun _=>?_)|refine dA ?_|refine And.intro rfl ?_|refine aD ?_|refine aR ?_|refine bP ?_|(refine iA fun _=>?_)|refine IdxK.xs (by omega) ?_|refine QX (by omega) ?_|(refine ByteK.at (by omega) ?_)|refine wI ?_|refine cP hB2 ?_|refine cP hH ?_);conv=>whnf)|(apply bD<;>intro _<;>first|omega|conv=>whnf)|(apply bE<;>intro _<;>first|omega|conv=>whnf)|(apply bN<;>intro _<;>conv=>whnf)|(apply bB<;>intro _<;>conv=>whnf)|(refine And.intro ?_ ?_<;>conv=>whnf))
    all_goals first
     | contradiction
     | exact ⟨_,.p Sub.nils,rfl⟩
     | trace_state
section
variable {P:Program} {T:Tab} {N:Nat} {σ:Mem} {β:Lab} {a:Act} {w:World} {o:Oper} {K:St->Prop} {s:St}
theorem x9p (e:TypeId) {sz n:Nat} {cs:List LV} {vs:Array Value} (hrun:(execOp a.eval o).run P w = .ok (.value (.slice (some ⟨w.heap.size,0,none⟩) n n)) (w.alloc (.cells vs e))) (hr:Rel N σ β s a w) (hc:RepC σ β cs vs.toList)
  (hf : ∀ k,ZT k s=true->LV.free.freeAll k cs=true) (h63:n<=maxLen)
  (h:JT 60 0 s fun k=>setD N s.sl o.dst (.hd k 0 n) fun sl=>K ⟨sl,(k,.obj e cs)::s.H⟩):x7y P N σ β a w s o K:=by
 intro Q;obtain ⟨k,hk,h⟩:=VL h;have hc':=hc.set (k:=k) (some ⟨w.heap.size,n,sz,[],h63⟩) (hf k hk);have hchunk:(Chunk.obj e cs).holds σ (β.set k (some ⟨w.heap.size,n,sz,[],h63⟩)) (w.alloc (.cells vs e)) k :=
  ⟨⟨w.heap.size,n,sz,[],h63⟩,vs,by simp [Lab.set],heap_alloc_new w _,by simpa using hc.1,fun j l hj=>by
    obtain ⟨u,h1,h2⟩:=hc'.2 j l hj;exact ⟨u,by simpa using h1,h2⟩⟩
 obtain ⟨hr',hl⟩:=hr.new hk rfl rfl hchunk;have hhd:=RepL.hd (σ:=σ) (β:=β.set k (some ⟨w.heap.size,n,sz,[],h63⟩)) k 0 n ⟨w.heap.size,n,sz,[],h63⟩ 0 (by simp [Lab.set]) (by simp) (.inl (by simp));simp only [Nat.sub_zero] at hhd;obtain ⟨sl,hK,hr''⟩:=hr'.setD hhd h;exact WN hrun ⟨σ,_,_,hK,hr'',hl⟩
theorem x6h {k:Nat} {place:Nat->Option (Nat×Nat)} : ∀ {ps:List (Nat×LV)} {cells out:List LV},q8v place cells ps=some out->(∀ l∈cells,l.free k=true)->(∀ x∈ps,x.2.free k=true) -> ∀ l∈out,l.free k=true
 | [],cells,out,h,hc,_=>by
   simp only [q8v,Option.some.injEq] at h;subst h;exact hc
 | (i,v)::r,cells,out,h,hc,hp=>by
   simp only [q8v] at h;split at h
   ·cases h
   ·rename_i off size hpl;split at h
    ·cases h
    ·rename_i vs hvs;cases hb:(vs.length==size&&Nat.ble (off+size) cells.length) with
     | false=>rw [hb] at h;cases h
     | true =>
       rw [hb,cond_true] at h;refine x6h h (fun l hl => ?_) fun x hx=>hp x (List.mem_cons_of_mem _ hx);rcases List.mem_append.1 hl with hl|hl
       ·rcases List.mem_append.1 hl with hl|hl
        ·exact hc l (List.mem_of_mem_take hl)
        ·exact GS.1 (PI hvs (hp (i,v) List.mem_cons_self)) l hl
       ·exact hc l (List.mem_of_mem_drop hl)
theorem z9b (hT:TabOK P T) {t:TypeId} {n:Nat} {parts:Array (Nat×Operand)} (hop:o.op = .buildSlice t n parts) {it:TyI} (ht:T.get t=some it) {e:TypeId} (hd:it.desc = .slice e) {ie:TyI} (hie:T.get e=some ie)
  (hsm:n*ie.size<=16777216) (hpos:0<ie.size) {out:List LV} (hout:q8v (fun i=>some (i*ie.size,ie.size)) (List.replicate (n*ie.size) (.p .any)) (parts.toList.map fun x=>(x.1,QR s.sl x.2))=some out)
  (h:JT 60 0 s fun k=>setD N s.sl o.dst (.hd k 0 n) fun sl=>K ⟨sl,(k,.obj e out)::s.H⟩):OpK P N s o K:=by
 have hf : ∀ k,ZT k s=true->LV.free.freeAll k out=true:=fun k hk=>by
  refine GS.2 (x6h hout (fun l hl=>by rw [List.eq_of_mem_replicate hl];rfl) fun x hx => ?_);obtain ⟨y,_,rfl⟩:=List.mem_map.1 hx;exact q1r hk y.2
 refine ⟨fun σ β a w hr => ?_⟩;have ht':=hT.of ht;rw [hd] at ht';have hok:=hT _ _ hie;have hrep : ∀ (j:Nat) (x:Nat×LV) (y:Nat×Value),(parts.toList.map fun x=>(x.1,QR s.sl x.2))[j]? = some x->(parts.toList.map fun x=>(x.1,a.eval x.2))[j]? = some y->RepL σ β x.2 y.2:=fun j x y hx hy=>by
  rw [List.getElem?_map] at hx hy;cases hq:parts.toList[j]? with
  | none=>rw [hq] at hx;cases hx
  | some q=>rw [hq] at hx hy;cases hx;cases hy;exact QU hr.slots _
 let zs:Array Value:=(Array.range (n*ie.size)).map (ie.zero.cells[· % ie.zero.cells.size]!);obtain ⟨cs,hcs,hrc⟩:=LX (σ:=σ) (β:=β) (place:=fun i=>some (i*ie.size,ie.size)) (placeL:=fun i=>some (i*ie.size,ie.size)) (fun _ _ h=>h) _ (parts.toList.map fun x=>(x.1,a.eval x.2)) _ zs out (by simp) hrep (HF (n*ie.size) zs.toList (by simp [zs])) hout;have hrun:(execOp a.eval o).run P w = .ok (.value (.slice (some ⟨w.heap.size,0,none⟩) n n)) (w.alloc (.cells cs e)):=by
  have hcs':Instr.fill (fun i=>some (i*ie.size,ie.size)) zs ((parts.map fun (i,x)=>(i,a.eval x)).toList)=some cs:=by
   rw [<- hcs];congr 1;simp
  by_cases h0:n*ie.size=0
  ·have hz:zs = #[]:=by apply Array.eq_empty_of_size_eq_zero;simp [zs,h0]
   have hz':zs=(Array.range (n*ie.size)).map ((#[]:Array Value)[· % (#[]:Array Value).size]!):=by rw [hz,h0];simp [Array.range_zero']
   have : ¬n*ie.size>16777216:=by omega
   rw [hz'] at hcs';simp only [execOp,hop,Instr.buildSlice,Sem.run_bind,run_underlying ht',Result.andThen_ok,hok.sizeOf,Nat.reducePow,if_neg this,if_pos h0,Sem.run_pure,hcs',newRow,run_newObj];rfl
  ·have : ¬n*ie.size>16777216:=by omega
   simp only [execOp,hop,Instr.buildSlice,Sem.run_bind,run_underlying ht',Result.andThen_ok,hok.sizeOf,Nat.reducePow,if_neg this,if_neg h0,hok.zeroValue,Sem.run_pure,zs] at hcs' ⊢;simp only [hcs',Sem.run_bind,newRow,run_newObj,Result.andThen_ok,Sem.run_pure];rfl
 have h63:n<=maxLen:=by
  have:n*1<=n*ie.size:=Nat.mul_le_mul_left _ hpos;simp only [maxLen];omega
 exact x9p (sz:=ie.size) e hrun hr hrc hf h63 h
end
theorem z2j (n:Nat) {es:List AV} {sz:Nat} {out:List LV} {Kp Ko:Prop} (hl:es.length=n) (hx:(es.all fun x=>x.cells.length==sz)=true) (ho:out=(es.flatMap AV.cells).map .p) (hK:Ko):BsK es sz out Kp Ko := .own (fun x h=>by simpa using List.all_eq_true.1 hx x h) ho hK
def rwS (id kind:Int) (name proc:Str) (x:List AV) (has args thn els:AV):AV := .agg ([.int .i64 id,.int .i64 kind,.nils,.str name,.str proc]++x++[has,args,thn,els])
def x0:List AV:=[.int .i64 0,.int .i64 0,.str [],.nils]
def bd0:List AV:=[rwS 1 1 [118] [] (X.mk 1 2 [] []).cells .ff .nils .nils .nils,
 rwS 2 4 [103] [112] x0 .ff (.sl [.agg ([.ff,.str []]++(X.mk 1 3 [] []).cells),.agg ([.tt,.str [118]]++x0)]) .nils .nils,
 rwS 3 3 [] [] (X.mk 2 0 [118] []).cells .ff .nils .nils .nils,rwS 4 3 [] [] (X.mk 2 0 [103] []).cells .ff .nils .nils .nils]
def bd1:List AV:=[rwS 5 1 [121] [] (X.mk 8 0 [] [.mk 2 0 [121] [],.mk 2 0 [120] []]).cells .ff .nils .nils .nils,
 rwS 6 5 [] [] (X.mk 12 0 [] [.mk 2 0 [121] [],.mk 1 9 [] []]).cells .ff .nils (.sl [rwS 7 10 [101] [] x0 .ff .nils .nils .nils]) .nils,
 rwS 8 9 [] [] (X.mk 2 0 [121] []).cells .tt .nils .nils .nils]
def prc (a b:Nat):List LV:=[.p (.str [109,97,105,110]),.p .nils,.p (.sl [.str [118]]),.hd a 0 4,.p .nils,.p (.str [112]),.p (.sl [.agg [.str [120],.ff],.agg [.str [121],.tt]]),.p .nils,.hd b 0 3,.p (.sl [.str [101]])]
def v2i:Heap:=[(5,.obj 68 (prc 1 3)),(3,.own 40 13 bd1),(1,.own 40 13 bd0),(0,.obj 25 [.p (.sl [.str [103]]),.hd 5 0 2])]
theorem w1k:SpecH Tryz.prog 78 [] [] (fun r H=>r = .agg [.p (.sl [.str [103]]),.hd 5 0 2]∧H=v2i):=by
 refine sH YX Tryz.func78 rfl Tryz.call78 ?_;conv=>whnf
 repeat' (first|((first|(refine iM fun _=>?_)|refine cP (HW _) ?_|refine cP (KM _) ?_|refine And.intro rfl ?_|refine aD ?_|refine aR ?_|(refine iA fun _=>?_)|refine IdxK.xs (by omega) ?_|refine QX (by omega) ?_|(refine ByteK.at (by omega) ?_)|refine wI ?_|refine z2j 4 rfl rfl rfl ?_|refine z2j 3 rfl rfl rfl ?_|refine YT rfl rfl ?_|refine z9b QY rfl rfl rfl rfl (by decide) (by decide) rfl ?_|refine cP (WB 8 (.mk 2 0 [121] []) (.mk 2 0 [120] [])) ?_|refine cP (WB 12 (.mk 2 0 [121] []) (.mk 1 9 [] [])) ?_);conv=>whnf)|(apply bD<;>intro _<;>first|omega|conv=>whnf)|(apply bE<;>intro _<;>first|omega|conv=>whnf)|(apply bN<;>intro _<;>conv=>whnf)|(apply bB<;>intro _<;>conv=>whnf))
 exact RetHK.mk _ (LSub.refl _) ⟨rfl,rfl⟩
theorem x9c {P:Program} {N:Nat} {g:FuncId} {args:List LV} {dst:Option Nat} {s:St} {K:St->Prop} {avs:List AV} (H1 H0:Heap) (sl0:List (Nat×LV)) (hH:s.H=H1++H0) (ha:FrzL H1 args avs)
  (hsl : ∀ i,getS sl0 i=getS s.sl i∨getS sl0 i = .p .any) (h:CallK P N g (avs.map .p) dst ⟨sl0,H0⟩ K):CallK P N g args dst s K:=by
 refine ⟨fun σ β a w hr vals hn hv => ?_⟩;obtain ⟨hlen,hget⟩:=ha.get;have hheap:=hr.heap;rw [hH] at hheap;have hl1 : ∀ k,k∈H1.map (·.1)->k∈(H1++H0).map (·.1):=fun k hk=>by rw [List.map_append];exact List.mem_append_left _ hk
 have hl0 : ∀ k,k∈H0.map (·.1)->k∈(H1++H0).map (·.1):=fun k hk=>by rw [List.map_append];exact List.mem_append_right _ hk
 have hnd:=hheap.nodup;rw [List.map_append,List.nodup_append] at hnd;have hr1:HRel σ β H1 w:=⟨hheap.mem,fun k c hc=>hheap.chunks k c (List.mem_append_left _ hc),hnd.1,fun k hk=>hheap.apart k (hl1 k hk),fun k hk k' hk'=>hheap.inj k (hl1 k hk) k' (hl1 k' hk')⟩;obtain ⟨τ,h5,h6,h7,h8⟩:=q0u hr1;have hno : ∀ b,owns β H1 b->owns β H0 b->False:=fun b ⟨k,hk,i,hi,hb⟩ ⟨k',hk',i',hi',hb'⟩=>by
  have he:=hheap.inj k (hl1 k hk) k' (hl0 k' hk') i i' hi hi' b hb hb';exact hnd.2.2 k hk k' hk' he
 have hrel:Rel N τ β ⟨sl0,H0⟩ a w:=by
  refine ⟨hr.size,hr.defers,fun i => ?_,⟨h6,fun k c hc=>(hheap.chunks k c (List.mem_append_right _ hc)).mono h5 fun _ _ _ _=>rfl,hnd.2.1,fun k hk i hi b hb => ?_,fun k hk k' hk'=>hheap.inj k (hl0 k hk) k' (hl0 k' hk')⟩⟩
  ·rcases hsl i with he|he
   ·show RepL τ β (getS sl0 i) _;rw [he];exact (hr.slots i).mono h5
   ·show RepL τ β (getS sl0 i) _;rw [he];exact .p (.any _)
  ·have h9:=hheap.apart k (hl0 k hk) i hi b hb;refine ⟨?_,h9.2⟩;cases hq:τ b with
   | none=>rfl
   | some c =>
     rcases h7 b (by rw [hq];simp) with h10|h10
     ·exact absurd h9.1 h10
     ·exact (hno b h10 ⟨k,hk,i,hi,hb⟩).elim
 have hlat:Later σ β s.H w τ β H0 w:=by
  rw [hH];refine ⟨h5,Frm.refl _ _,fun b h0 h1 => ?_,fun b ⟨k,hk,r⟩ => .inl ⟨k,hl0 k hk,r⟩,fun _ _ _=>rfl⟩;rcases h7 b h1 with h2|⟨k,hk,r⟩
  ·exact absurd h0 h2
  ·exact .inl ⟨k,hl1 k hk,r⟩
 obtain ⟨q1,q2⟩:=h.ok τ β a w hrel vals (by rw [length_map,<- hlen];exact hn) fun j l hj=>by
  rw [List.getElem?_map] at hj;cases hq:avs[j]? with
  | none=>rw [hq] at hj;cases hj
  | some c =>
    rw [hq] at hj;cases hj;obtain ⟨l,h1,h2⟩:=hget j c hq;exact .p (h8 l _ c (hv j l h1) h2)
 exact ⟨q1,q2.mono fun e w' ⟨u,σ',β',s',he,hK,hr',hl'⟩=>⟨u,σ',β',s',he,hK,hr',hlat.trans hl'⟩⟩
def d0P:Pg:=⟨[[103]],[
 ⟨[109,97,105,110],[],[[118]],[
   .mk 1 1 [] [118] [] (.mk 1 2 [] []) false [] [] [],
   .mk 2 4 [] [] [112] (.mk 0 0 [] []) false [⟨false,[],.mk 1 3 [] []⟩,⟨true,[118],.mk 0 0 [] []⟩] [] [],
   .mk 3 3 [] [] [] (.mk 2 0 [118] []) false [] [] [],
   .mk 4 3 [] [] [] (.mk 2 0 [103] []) false [] [] []],[]⟩,
 ⟨[112],[⟨[120],false⟩,⟨[121],true⟩],[],[
   .mk 0 2 [] [120] [] (.mk 0 0 [] []) false [] [] [],
   .mk 6 5 [] [] [] (.mk 12 0 [] [.mk 2 0 [121] [],.mk 1 9 [] []]) false [] [.mk 7 10 [] [101] [] (.mk 0 0 [] []) false [] [] []] [],
   .mk 8 9 [] [] [] (.mk 2 0 [103] []) true [] [] []],[[101]]⟩]⟩
def dP:Pg:=⟨[[103]],[
 ⟨[109,97,105,110],[],[[118]],[
   .mk 1 1 [] [118] [] (.mk 1 2 [] []) false [] [] [],
   .mk 2 4 [] [] [112] (.mk 0 0 [] []) false [⟨false,[],.mk 1 3 [] []⟩,⟨true,[118],.mk 0 0 [] []⟩] [] [],
   .mk 3 3 [] [] [] (.mk 2 0 [118] []) false [] [] [],
   .mk 4 3 [] [] [] (.mk 2 0 [103] []) false [] [] []],[]⟩,
 ⟨[112],[⟨[120],false⟩,⟨[121],true⟩],[],[
   .mk 5 2 [] [120] [] (.mk 0 0 [] []) false [] [] [],
   .mk 6 5 [] [] [] (.mk 12 0 [] [.mk 2 0 [121] [],.mk 1 9 [] []]) false [] [.mk 7 10 [] [101] [] (.mk 0 0 [] []) false [] [] []] [],
   .mk 8 9 [] [] [] (.mk 2 0 [103] []) true [] [] []],[[101]]⟩]⟩
theorem w8r:w6s d0P=dP:=by kernel_rfl
theorem w5o:CopyF d0P:=by
 refine ⟨by decide,by decide,fun f hf => ?_⟩;have h2:f=d0P.procs[0]∨f=d0P.procs[1]:=by simpa [d0P] using hf
 have h3 : ∀ t∈flL d0P.procs[0].body,okC t∧t.id ≠ -1:=by unfold okC;decide
 have h4 : ∀ t∈flL d0P.procs[1].body,okC t∧t.id ≠ -1:=by unfold okC;decide
 rcases h2 with rfl|rfl
 ·exact ⟨by decide,by decide,by decide,by decide,h3⟩
 ·exact ⟨by decide,by decide,by decide,by decide,h4⟩
theorem z2v {H:Heap} {k n:Nat} {e sz:Nat} {es es':List AV} (hg:getH H k=some (.own e sz es)) (hn:n=es.length) (hs:SubE es es'):Frz H (.hd k 0 n) (.sl es') := .sub (.hd hg hn) (Sub.sl hs)
def w9f:List AV:=(bd1.set 0 (rwS 0 2 [120] [] x0 .ff .nils .nils .nils)).set 2 (rwS 8 9 [] [] [.int .i64 2,.int .i64 0,.str [103],.nils] .tt .nils .nils .nils)
def w9u:List AV:=bd0.set 1 (rwS 2 4 [] [112] x0 .ff (.sl [.agg ([.ff,.str []]++(X.mk 1 3 [] []).cells),.agg ([.tt,.str [118]]++x0)]) .nils .nils)
def w9j:Heap:=[(1,.obj 25 [.p (.sl [.str [103]]),.hd 25 0 2]),(25,.obj 68 (prc 21 23)),(23,.own 40 13 w9f),(21,.own 40 13 w9u)]
theorem v3g:SubE w9u [.agg d0P.procs[0].body[0].cells,.agg d0P.procs[0].body[1].cells,.agg d0P.procs[0].body[2].cells,.agg d0P.procs[0].body[3].cells]:=by repeat' (first|exact SubL.nil|exact SubE.nil|exact Sub.nils|exact Sub.ff rfl|exact Sub.tt rfl|refine SubL.cons ?_ ?_|refine SubE.cons ?_ ?_|exact Sub.refl _|refine Sub.agg ?_|refine Sub.sl ?_)
theorem v3y:SubE w9f [.agg d0P.procs[1].body[0].cells,.agg d0P.procs[1].body[1].cells,.agg d0P.procs[1].body[2].cells]:=by repeat' (first|exact SubL.nil|exact SubE.nil|exact Sub.nils|exact Sub.ff rfl|exact Sub.tt rfl|refine SubL.cons ?_ ?_|refine SubE.cons ?_ ?_|exact Sub.refl _|refine Sub.agg ?_|refine Sub.sl ?_)
theorem w8p:Frz w9j (.agg [.p (.sl [.str [103]]),.hd 25 0 2]) (.agg d0P.cells):=by
 have f0:Frz w9j (.hd 21 0 4) (eSs d0P.procs[0].body):=z2v (es:=w9u) rfl rfl v3g;have f1:Frz w9j (.hd 23 0 3) (eSs d0P.procs[1].body):=z2v (es:=w9f) rfl rfl v3y;have fp:Frz w9j (.hd 25 0 2) (.sl (d0P.procs.map fun f => .agg f.cells)):=by
  refine Frz.hdo (sz:=5) (ls:=prc 21 23) (cs:=d0P.procs[0].cells++d0P.procs[1].cells) rfl rfl (fun j l c h1 h2 => ?_) rfl (fun m x hx => ?_) (fun m x j c hx hj => ?_)
  ·match j,h1,h2 with
   | 0,h1,h2=>cases h1;cases h2;exact .p (Sub.refl _)
   | 1,h1,h2=>cases h1;cases h2;exact .p Sub.nils
   | 2,h1,h2=>cases h1;cases h2;exact .p (Sub.refl _)
   | 3,h1,h2=>cases h1;cases h2;exact f0
   | 4,h1,h2=>cases h1;cases h2;exact .p Sub.nils
   | 5,h1,h2=>cases h1;cases h2;exact .p (Sub.refl _)
   | 6,h1,h2=>cases h1;cases h2;exact .p (by repeat' (first|exact SubL.nil|exact SubE.nil|exact Sub.nils|exact Sub.ff rfl|exact Sub.tt rfl|refine SubL.cons ?_ ?_|refine SubE.cons ?_ ?_|exact Sub.refl _|refine Sub.agg ?_|refine Sub.sl ?_))
   | 7,h1,h2=>cases h1;cases h2;exact .p Sub.nils
   | 8,h1,h2=>cases h1;cases h2;exact f1
   | 9,h1,h2=>cases h1;cases h2;exact .p (Sub.refl _)
   | j+10,h1,h2=>cases h1
  ·match m,hx with
   | 0,hx=>cases hx;rfl
   | 1,hx=>cases hx;rfl
   | m+2,hx=>cases hx
  ·match m,hx with
   | 0,hx =>
     cases hx
     match j,hj with
     | 0,hj=>exact hj
     | 1,hj=>exact hj
     | 2,hj=>exact hj
     | 3,hj=>exact hj
     | 4,hj=>exact hj
     | j+5,hj=>cases hj
   | 1,hx =>
     cases hx
     match j,hj with
     | 0,hj=>exact hj
     | 1,hj=>exact hj
     | 2,hj=>exact hj
     | 3,hj=>exact hj
     | 4,hj=>exact hj
     | j+5,hj=>cases hj
   | m+2,hx=>cases hx
 refine .agg rfl fun j l c h1 h2 => ?_
 match j,h1,h2 with
 | 0,h1,h2=>cases h1;cases h2;exact .p (Sub.refl _)
 | 1,h1,h2=>cases h1;cases h2;exact fp
 | j+2,h1,h2=>cases h1
theorem BU:SpecP Tryz.prog 79 [] (fun r=>r = .agg dP.cells):=by
 have hN:=PG d0P w5o (by decide);rw [w8r] at hN;refine SpecP.body ⟨QF [(5,[0]),(4,[0,1]),(3,[0,1]),(2,[0,1]),(1,[0,1]),(0,[0])],QV [],QW []⟩ QY Tryz.func79 rfl Tryz.call79 (by show 0<=_;decide) ?_;conv=>whnf
 repeat' (first|((first|(refine iM fun _=>?_)|refine dA ?_|refine And.intro rfl ?_|refine aD ?_|refine aR ?_|refine bP ?_|(refine iA fun _=>?_)|refine IdxK.xs (by omega) ?_|refine QX (by omega) ?_|(refine ByteK.at (by omega) ?_)|refine wI ?_|refine IdxL.mk 0 rfl (by decide) ?_|refine IdxL.mk 1 rfl (by decide) ?_|refine IdxL.mk 2 rfl (by decide) ?_|refine StOwn.mk 0 0 _ (rwS 0 2 [120] [] x0 .ff .nils .nils .nils) rfl rfl (by decide) rfl ?_|refine StOwn.mk 2 5 _ (rwS 8 9 [] [] [.int .i64 2,.int .i64 0,.str [103],.nils] .tt .nils .nils .nils) rfl rfl (by decide) rfl ?_|refine StOwn.mk 1 3 _ (rwS 2 4 [] [112] x0 .ff (.sl [.agg ([.ff,.str []]++(X.mk 1 3 [] []).cells),.agg ([.tt,.str [118]]++x0)]) .nils .nils) rfl rfl (by decide) rfl ?_);conv=>whnf)|(apply bD<;>intro _<;>first|omega|conv=>whnf)|(apply bE<;>intro _<;>first|omega|conv=>whnf)|(apply bN<;>intro _<;>conv=>whnf)|(apply bB<;>intro _<;>conv=>whnf)|(refine CallK.heap [] 20 ArgsH.nil BlksH.nil w1k rfl rfl ?_;rintro l' H' ⟨rfl,rfl⟩;conv=>whnf))
 refine x9c [(1,.obj 25 [.p (.sl [.str [103]]),.hd 25 0 2]),(25,.obj 68 (prc 21 23)),(23,.own 40 13 w9f),(21,.own 40 13 w9u)] [(0,.obj 25 [.p .nils,.p .nils])] [(0,.ptr 0 0)] rfl (avs:=[.agg d0P.cells]) (.cons w8p .nil) (fun i=>by
  cases i with
  | zero=>exact .inl rfl
  | succ i=>exact .inr rfl) ?_
 refine CallK.pure hN (.cons (Sub.refl _) .nil) ?_;rintro _ rfl;conv=>whnf
 repeat' (first|((first|(refine iM fun _=>?_)|refine dA ?_|refine And.intro rfl ?_|refine aD ?_|refine aR ?_|refine bP ?_|(refine iA fun _=>?_)|refine IdxK.xs (by omega) ?_|refine QX (by omega) ?_|(refine ByteK.at (by omega) ?_)|refine wI ?_);conv=>whnf)|(apply bD<;>intro _<;>first|omega|conv=>whnf)|(apply bE<;>intro _<;>first|omega|conv=>whnf)|(apply bN<;>intro _<;>conv=>whnf)|(apply bB<;>intro _<;>conv=>whnf))
 all_goals first
  | exact ⟨_,.p (Sub.refl _),rfl⟩
  | exact RetK.p rfl
  | trace_state
instance:DecidableRel ltT:=fun a b=>inferInstanceAs (Decidable (Op.bytesLess a b=true))
def v0q (m l:List Str):Bool:=decide (m.Pairwise ltT)&&m.all (fun s=>inS l s)&&l.all (fun s=>inS m s)
theorem w5g {m l:List Str} (h:v0q m l=true):VK l=m:=by
 unfold v0q at h;simp only [Bool.and_eq_true,decide_eq_true_eq,List.all_eq_true] at h;exact (w2o h.1.1 fun s=>⟨fun hs=>XN.1 (h.1.2 s hs),fun hs=>XN.1 (h.2 s hs)⟩).symm
def w5c:List (List Str)->List (List Str)->Bool
 | [],[]=>true
 | m::ms,l::ls=>v0q m l&&w5c ms ls
 | _,_=>false
theorem q5r : ∀ {ms ls:List (List Str)},w5c ms ls=true->ls.map VK=ms
 | [],[],_=>rfl
 | [],_::_,h=>by cases h
 | _::_,[],h=>by cases h
 | m::ms,l::ls,h=>by
   rw [w5c,Bool.and_eq_true] at h;rw [List.map_cons,w5g h.1,q5r h.2]
theorem q5h {p:Pg} {O D:List (List Str)} (h:w5c D ((sheetOf p).l.map fun it=>HU (bkO p O) it.s)=true):dfB p O=D:=by
 have h1:=q5r h;rw [List.map_map] at h1;exact h1
theorem x3f {p:Pg} {I U:List (List Str)} (h:w5c U ((sheetOf p).l.map fun it=>NM (bkI p I) it.s)=true):usB p I=U:=by
 have h1:=q5r h;rw [List.map_map] at h1;exact h1
def v2d (lv:List Bool) (p:Pg) (i:Nat) (f:Pr) (D:List (List Str)):List Str:=(itsOf p i f).flatMap fun it=>bif lv.getD (ixI p i f it.s.id).toNat false then (HM D it.s.id).filter (outB p f) else []
def v2q (prs:List (Int×Int)) (p:Pg) (i:Nat) (f:Pr) (D U:List (List Str)) (o:List Str) (x:Str):Bool:=(HX 0 (ZU (QS (cntL f.body+2) (prs.filter fun t=>HB p i f D x t.1)).1 [0])).any (hitN p i f U o x)
theorem x2w {p:Pg} {D O:List (List Str)} {lv0 lv1:List Bool} {f0 f1:Pr} (hp:p.procs=[f0,f1]) (h0:(QQ p 0 f0).live=lv0) (h1:(QQ p 1 f1).live=lv1) (h:w5c O [v2d lv0 p 0 f0 D,v2d lv1 p 1 f1 D]=true):otB p D=O:=by
 rw [<- q5r h,<- h0,<- h1];unfold otB;have e0:prA p 0=f0:=FM (by rw [hp];rfl);have e1:prA p 1=f1:=FM (by rw [hp];rfl);rw [hp];show [otA p D 0,otA p D 1]=_;unfold otA;rw [e0,e1];rfl
theorem x8d {p:Pg} {D U O I:List (List Str)} {w9z w8o:List (Int×Int)} {f0 f1:Pr} (hp:p.procs=[f0,f1]) (h0:JP (QQ p 0 f0) f0=w9z) (h1:JP (QQ p 1 f1) f1=w8o)
  (h:w5c I [(p.globals++[tapeS]).filter (v2q w9z p 0 f0 D U (O.getD 0 [])),(p.globals++[tapeS]).filter (v2q w8o p 1 f1 D U (O.getD 1 []))]=true):niB p D U O=I:=by
 rw [<- q5r h,<- h0,<- h1];unfold niB;have e0:prA p 0=f0:=FM (by rw [hp];rfl);have e1:prA p 1=f1:=FM (by rw [hp];rfl);rw [hp];show [niA p D U O 0,niA p D U O 1]=_;unfold niA x9e;rw [e0,e1];rfl
def x1g:Str:=[103]
def vS:Str:=[118]
def yS:Str:=[121]
def xS:Str:=[120]
theorem v0s:FT (QQ someP 0 f0) f0=[⟨0,1,1⟩,⟨1,2,1⟩,⟨2,3,1⟩,⟨3,4,1⟩,⟨4,-1,1⟩]:=by
 unfold FT VD;rw [w7s,w7n];exact DL (by unfold okSt;decide) (by decide) (by decide) (by decide)
theorem v1i:JP (QQ someP 0 f0) f0=[(0,1),(1,2),(2,3),(3,4),(4,5)]:=by
 unfold JP;rw [v0s]
 kernel_rfl
theorem v1r:JP (QQ someP 1 f1) f1=[(0,1),(1,2),(2,3),(2,4),(3,5),(4,5)]:=by
 unfold JP;rw [w9m]
 kernel_rfl
theorem v2b:(QQ someP 0 f0).live=[true,true,true,true,true,true]:=by
 unfold QQ;simp only [w8t]
 kernel_rfl
theorem v2k:(QQ someP 1 f1).live=[true,true,true,true,true,true]:=by
 unfold QQ;simp only [w8g]
 kernel_rfl
def sO:List (List Str):=[[x1g],[yS]]
def sD0:List (List Str):=[[vS],[x1g],[],[],[yS],[],[],[w5r]]
def sD:List (List Str):=[[vS],[x1g,vS],[],[],[yS],[],[],[w5r]]
def sU:List (List Str):=[[],[vS],[vS],[x1g],[xS,yS],[yS],[],[yS]]
theorem some_book:BookR someP ⟨sheetOf someP,wysB someP,sD,sU,[[],[]],sO⟩:=by
 have d0:dfB someP [[],[]]=sD0:=q5h (by kernel_rfl);have o1:otB someP sD0=sO:=x2w (f0:=f0) (f1:=f1) rfl v2b v2k (by kernel_rfl);have d1:dfB someP sO=sD:=q5h (by kernel_rfl);have o2:otB someP sD=sO:=x2w (f0:=f0) (f1:=f1) rfl v2b v2k (by kernel_rfl);have u0:usB someP [[],[]]=sU:=x3f (by kernel_rfl);have i1:niB someP sD sU sO=[[],[]]:=x8d (f0:=f0) (f1:=f1) rfl v1i v1r (by kernel_rfl);refine ⟨rfl,rfl,⟨1,?_⟩,?_,d1.symm,⟨0,rfl⟩,?_,u0.symm⟩
 ·show sO=otB someP (dfB someP [[],[]]);rw [d0,o1]
 ·show otB someP (dfB someP sO)=sO;rw [d1,o2]
 ·show niB someP sD (usB someP [[],[]]) sO=[[],[]];rw [u0,i1]
def g0:Pr:=dP.procs[0]'(by decide)
def g1:Pr:=dP.procs[1]'(by decide)
theorem v0x:Fit dP:=by unfold Fit;decide
theorem v1p:QO dP=true:=by kernel_rfl
theorem w3u:ZH (QK dP 0 g0)=[⟨0,1,1⟩,⟨1,2,1⟩,⟨2,3,1⟩,⟨3,4,1⟩,⟨4,-1,1⟩]:=by
 have h1:QK dP 0 g0=[⟨0,1,1⟩,⟨1,2,1⟩,⟨2,3,1⟩,⟨3,4,1⟩,⟨4,-1,1⟩]:=by kernel_rfl
 rw [h1];exact DL (by unfold okSt;decide) (by decide) (by decide) (by decide)
theorem w3b:ZH (QK dP 1 g1)=[⟨0,5,1⟩,⟨5,6,1⟩,⟨6,7,1⟩,⟨6,8,1⟩,⟨7,-1,1⟩,⟨8,-1,1⟩]:=by
 have h1:QK dP 1 g1=[⟨0,5,1⟩,⟨5,6,1⟩,⟨6,7,1⟩,⟨6,8,1⟩,⟨7,-1,1⟩,⟨8,-1,1⟩]:=by kernel_rfl
 rw [h1];exact DL (by unfold okSt;decide) (by decide) (by decide) (by decide)
theorem w4x:(QQ dP 0 g0).real=[⟨0,1,1⟩,⟨1,2,1⟩,⟨2,3,1⟩,⟨3,4,1⟩,⟨4,-1,1⟩]:=w3u
theorem w3o:(QQ dP 1 g1).real=[⟨0,5,1⟩,⟨5,6,1⟩,⟨6,7,1⟩,⟨6,8,1⟩,⟨7,-1,1⟩,⟨8,-1,1⟩]:=w3b
theorem w8a:prsW (QQ dP 0 g0) g0=[(0,1),(1,2),(2,3),(3,4),(4,5)]:=by
 unfold prsW;rw [w4x]
 kernel_rfl
theorem w7u:prsW (QQ dP 1 g1) g1=[(0,1),(1,2),(2,3),(2,4),(3,5),(4,5)]:=by
 unfold prsW;rw [w3o]
 kernel_rfl
theorem w4m:trapsW (QQ dP 0 g0) g0=[]:=by
 unfold trapsW WM;rw [w8a]
 kernel_rfl
theorem w5z:trapsW (QQ dP 1 g1) g1=[]:=by
 unfold trapsW WM;rw [w7u]
 kernel_rfl
theorem w7y:FT (QQ dP 0 g0) g0=[⟨0,1,1⟩,⟨1,2,1⟩,⟨2,3,1⟩,⟨3,4,1⟩,⟨4,-1,1⟩]:=by
 unfold FT VD;rw [w4m,w4x];exact DL (by unfold okSt;decide) (by decide) (by decide) (by decide)
theorem w6i:JP (QQ dP 0 g0) g0=[(0,1),(1,2),(2,3),(3,4),(4,5)]:=by
 unfold JP;rw [w7y]
 kernel_rfl
theorem w8d:FT (QQ dP 1 g1) g1=[⟨0,5,1⟩,⟨5,6,1⟩,⟨6,7,1⟩,⟨6,8,1⟩,⟨7,-1,1⟩,⟨8,-1,1⟩]:=by
 unfold FT VD;rw [w5z,w3o];exact DL (by unfold okSt;decide) (by decide) (by decide) (by decide)
theorem w7v:JP (QQ dP 1 g1) g1=[(0,1),(1,2),(2,3),(2,4),(3,5),(4,5)]:=by
 unfold JP;rw [w8d]
 kernel_rfl
theorem v2y:(QQ dP 0 g0).live=[true,true,true,true,true,true]:=by
 unfold QQ;simp only [w3u]
 kernel_rfl
theorem v2z:(QQ dP 1 g1).live=[true,true,true,true,true,true]:=by
 unfold QQ;simp only [w3b]
 kernel_rfl
def tO1:List (List Str):=[[],[tapeS]]
def tO:List (List Str):=[[tapeS],[tapeS]]
def tD0:List (List Str):=[[vS],[],[],[],[tapeS,xS],[],[],[w5r]]
def tD:List (List Str):=[[vS],[tapeS],[],[],[tapeS,xS],[],[],[w5r]]
def tI1:List (List Str):=[[x1g],[tapeS,x1g]]
def tI:List (List Str):=[[tapeS,x1g],[tapeS,x1g]]
def tU0:List (List Str):=[[],[vS],[vS],[x1g],[tapeS],[yS],[],[x1g]]
def tU:List (List Str):=[[],[tapeS,x1g,vS],[vS],[x1g],[tapeS],[yS],[],[x1g]]
theorem d_book:BookR dP ⟨sheetOf dP,wysB dP,tD,tU,tI,tO⟩:=by
 have d0:dfB dP [[],[]]=tD0:=q5h (by kernel_rfl);have o1:otB dP tD0=tO1:=x2w (f0:=g0) (f1:=g1) rfl v2y v2z (by kernel_rfl);have d1:dfB dP tO1=tD:=q5h (by kernel_rfl);have o2:otB dP tD=tO:=x2w (f0:=g0) (f1:=g1) rfl v2y v2z (by kernel_rfl);have d2:dfB dP tO=tD:=q5h (by kernel_rfl);have u0:usB dP [[],[]]=tU0:=x3f (by kernel_rfl);have i1:niB dP tD tU0 tO=tI1:=x8d (f0:=g0) (f1:=g1) rfl w6i w7v (by kernel_rfl);have u1:usB dP tI1=tU:=x3f (by kernel_rfl);have i2:niB dP tD tU tO=tI:=x8d (f0:=g0) (f1:=g1) rfl w6i w7v (by kernel_rfl);have u2:usB dP tI=tU:=x3f (by kernel_rfl);refine ⟨rfl,rfl,⟨2,?_⟩,?_,d2.symm,⟨2,?_⟩,?_,u2.symm⟩
 ·show tO=otB dP (dfB dP (otB dP (dfB dP [[],[]])));rw [d0,o1,d1,o2]
 ·show otB dP (dfB dP tO)=tO;rw [d2,o2]
 ·show tI=niB dP tD (usB dP (niB dP tD (usB dP [[],[]]) tO)) tO;rw [u0,i1,u1,i2]
 ·show niB dP tD (usB dP tI) tO=tI;rw [u2,i2]
theorem v0a:q6w someP 2=[x1g,vS]:=by
 unfold q6w;rw [if_pos ⟨x3k,by decide,by rw [show (sheetOf someP).l.length=8 by kernel_rfl];decide⟩,<- some_book.eq];rfl
theorem v0l:x7o someP 5=[xS,yS]:=by
 unfold x7o;rw [if_pos ⟨x3k,by decide,by rw [show (sheetOf someP).l.length=8 by kernel_rfl];decide⟩,<- some_book.eq];rfl
theorem v1j:KU someP [112]=[yS]:=by
 have e:q2u someP [112]=1:=by kernel_rfl
 unfold KU;rw [e,if_pos ⟨x3k,by decide⟩,<- some_book.eq];rfl
theorem v0p:z1p dP [112]=[tapeS,x1g]:=by
 have e:q2u dP [112]=1:=by kernel_rfl
 unfold z1p;rw [e,if_pos ⟨v1p,by decide⟩,<- d_book.eq];rfl
theorem QB:SpecP Tryz.prog 15 [] (fun r=>r = .tt):=by
 have h1:=q9m someP x3p 2;rw [v0a] at h1;have h2:=z3g someP x3p 5;rw [v0l] at h2;have h3:=DS someP x3p [112];rw [v1j] at h3;have h4:=x4y dP v0x [112];rw [v0p] at h4;have q1:=ZV [x1g,vS] [x1g,vS];have q2:=ZV [xS,yS] [xS,yS];have q3:=ZV [yS] [yS];have q4:=ZV [tapeS,x1g] [tapeS,x1g];simp only [decide_true] at q1 q2 q3 q4;refine sB GU Tryz.func15 rfl Tryz.call15 ?_;conv=>whnf
 repeat' (first|((first|(refine iM fun _=>?_)|refine dA ?_|refine And.intro rfl ?_|refine aD ?_|refine aR ?_|refine bP ?_|(refine iA fun _=>?_)|refine IdxK.xs (by omega) ?_|refine QX (by omega) ?_|(refine ByteK.at (by omega) ?_)|refine wI ?_|refine cP q1p ?_|refine cP BU ?_|refine cP h1 ?_|refine cP h2 ?_|refine cP h3 ?_|refine cP h4 ?_|refine YT rfl rfl ?_|refine cP q1 ?_|refine cP q2 ?_|refine cP q3 ?_|refine cP q4 ?_);conv=>whnf)|(apply bD<;>intro _<;>first|omega|conv=>whnf)|(apply bE<;>intro _<;>first|omega|conv=>whnf)|(apply bN<;>intro _<;>conv=>whnf)|(apply bB<;>intro _<;>conv=>whnf))
 all_goals first
  | exact absurd (show true=false by assumption) (by decide)
  | exact ⟨_,.p (q2v rfl),rfl⟩
  | exact RetK.tt rfl
  | exact ⟨_,.p (Sub.refl _),rfl⟩
  | trace_state
theorem z9i {p:Pg} {f:Pr} {n:Str} (h:q5t p f n≠0):n∈p.globals∨n∈x9d f:=by
 unfold q5t at h;unfold x9d;cases hq:f.params.find? (fun a=>a.name==n) with
 | some a =>
   refine .inr (List.mem_append_left _ (List.mem_map.2 ⟨a,List.mem_of_find?_eq_some hq,by simpa using List.find?_some hq⟩))
 | none =>
   rw [hq] at h;cases hv:f.vars.any (fun s=>n==s) with
   | true =>
     obtain ⟨s,h1,h2⟩:=List.any_eq_true.1 hv;exact .inr (List.mem_append_right _ (by rw [eq_of_beq h2];exact h1))
   | false =>
     cases hg:p.globals.any (fun s=>n==s) with
     | true =>
       obtain ⟨s,h1,h2⟩:=List.any_eq_true.1 hg;exact .inl (by rw [eq_of_beq h2];exact h1)
     | false=>exact absurd (by simp only [hv,hg];rfl) h
theorem z8h {p:Pg} (h:QO p=true) {n:Str} (hn:n∈p.globals):isName n=true:=by
 have hm:=(QP h).1;unfold YS at hm;simp only [Bool.and_eq_true] at hm;exact List.all_eq_true.1 hm.1.2 n hn
theorem z9c {p:Pg} (h:QO p=true) {f:Pr} (hf:f∈p.procs) {n:Str} (hn:n∈x9d f):isName n=true:=by
 obtain ⟨_,_,_,h1,_,h2⟩:=YM.1 (x9w (QP h).1 hf);rcases List.mem_append.1 hn with hn|hn
 ·obtain ⟨a,ha,rfl⟩:=List.mem_map.1 hn;exact List.all_eq_true.1 h2 a ha
 ·exact List.all_eq_true.1 h1 n hn
section
variable {p:Pg} {j:Nat} {f:Pr}
theorem z8g (h:QO p=true) (hf:f∈p.procs) {t:S} (ht:t∈flL f.body) {n:Str} (hn:n∈namesT t):isName n=true:=by
 have hk:=FS (QP h).2.1 hf ht;unfold YE at hk;rw [Bool.and_eq_true] at hk;have h1:=List.all_eq_true.1 hk.1 n hn;rcases z9i (by simpa using h1) with h2|h2
 ·exact z8h h h2
 ·exact z9c h hf h2
theorem w4b:isName tapeS=false:=by kernel_rfl
theorem x5g (h:QO p=true) (hf:f∈p.procs) {t:S} (ht:t∈flL f.body):tapeS∉namesT t:=fun hn=>by
 have:=z8g h hf ht hn;rw [w4b] at this;cases this
theorem q6p {t:S} (h1:t.name≠[]) (h2:t.kind≠10):t.name∈namesT t:=by
 unfold namesT JQ;refine List.mem_append_left _ (List.mem_append_left _ ?_);have:(decide (t.kind≠10) && !(t.name==[]))=true:=by simp [h1,h2]
 rw [this];exact List.mem_singleton.2 rfl
theorem z0u {t:S} {a:Arg} (ha:a∈t.args) {n:Str} (hn:n∈usA a):n∈namesT t:=by
 unfold namesT;refine List.mem_append_right _ (List.mem_flatMap.2 ⟨a,ha,?_⟩);unfold usA at hn;unfold VO;rcases List.mem_append.1 hn with hn|hn
 ·refine List.mem_append_left _ ?_;cases hr:a.ref with
  | true=>rw [hr,if_pos rfl] at hn;exact hn
  | false=>rw [hr,if_neg (by decide)] at hn;cases hn
 ·exact List.mem_append_right _ hn
theorem z0r {t:S} {g:Pr} {O:List Str} {n:Str} (hn:n∈z2h t g O t.args.length):n∈namesT t:=by
 obtain ⟨x,h1,⟨h2,_⟩,h4⟩:=q4k.1 hn;have ha:x.1∈t.args:=(List.of_mem_zip (a:=x.1) (b:=x.2) (List.mem_of_mem_take h1)).1;refine z0u ha ?_;unfold usA;rw [if_pos h2,h4];exact List.mem_append_left _ (List.mem_singleton.2 rfl)
theorem w8z {O:List (List Str)} {t:S}:caO (bkO p O) t=O.getD (caI p t).toNat []:=rfl
theorem w4a {I:List (List Str)} {t:S}:inAt (bkI p I) t=I.getD (caI p t).toNat []:=rfl
theorem q0z {O:List (List Str)} {t:S} (h4:t.kind=4) {n:Str}:n∈HU (bkO p O) t↔(n=t.name∧t.name≠[])∨n∈z2h t (caP p t) (O.getD (caI p t).toNat []) t.args.length∨(n∈O.getD (caI p t).toNat []∧comB p n=true):=by
 have e:HU (bkO p O) t=w3y p t (caP p t) (caO (bkO p O) t):=by
  unfold HU;rw [if_neg (by omega),if_neg (by omega),if_neg (by omega),if_pos h4];rfl
 rw [e,w8z];unfold w3y;rw [List.mem_append,List.mem_append,List.mem_filter,or_assoc];by_cases h:t.name=[]
 ·rw [if_pos h];simp [h]
 ·rw [if_neg h];simp [h]
theorem z1a (h:QO p=true) (hf:f∈p.procs) {t:S} (ht:t∈flL f.body) {O:List (List Str)}:tapeS∈HU (bkO p O) t↔t.kind=2∨(t.kind=4∧tapeS∈O.getD (caI p t).toNat []):=by
 have hno:=x5g h hf ht;by_cases h2:t.kind=2
 ·have e:HU (bkO p O) t=[t.name,tapeS]:=by unfold HU;rw [if_neg (by omega),if_pos h2]
  rw [e];simp [h2]
 by_cases h4:t.kind=4
 ·rw [q0z h4];constructor
  ·rintro (⟨h5,h6⟩|h5|⟨h5,_⟩)
   ·exact absurd (h5▸q6p h6 (by omega)) hno
   ·exact absurd (z0r h5) hno
   ·exact .inr ⟨h4,h5⟩
  ·rintro (h5|⟨_,h5⟩)
   ·exact absurd h5 h2
   ·exact .inr (.inr ⟨h5,KI.2 (.inl rfl)⟩)
 ·constructor
  ·intro h5;exfalso;unfold HU at h5;rw [if_neg h2,if_neg h4] at h5;split at h5
   ·rename_i h1;have h6:=List.mem_singleton.1 h5;refine hno ?_;have:=q6p (t:=t) (fun he=>by rw [he] at h6;exact absurd h6 (by decide)) (by omega)
    rwa [<- h6] at this
   ·split at h5
    ·exact absurd (List.mem_singleton.1 h5) (by decide)
    ·cases h5
  ·rintro (h5|⟨h5,_⟩)
   ·exact absurd h5 h2
   ·exact absurd h5 h4
theorem z1r (h:QO p=true) (hf:f∈p.procs) {t:S} (ht:t∈flL f.body) {I:List (List Str)}:tapeS∈NM (bkI p I) t↔t.kind=2∨(t.kind=4∧tapeS∈I.getD (caI p t).toNat []):=by
 have hno:=x5g h hf ht;have hx:tapeS∉XZ t.x:=fun hn=>hno (by
  unfold namesT JQ;exact List.mem_append_left _ (List.mem_append_right _ hn))
 have hH:tapeS∈z4m t↔t.kind=2:=by
  unfold z4m;rw [List.mem_append];by_cases h2:t.kind=2
  ·rw [if_pos h2];simp [h2]
  ·rw [if_neg h2];simp [h2,hx]
 unfold NM;by_cases h4:t.kind=4
 ·rw [if_pos h4,List.mem_append,List.mem_append,hH,w4a];constructor
  ·rintro ((h5|h5)|h5)
   ·exact .inl h5
   ·obtain ⟨a,ha,hn⟩:=List.mem_flatMap.1 h5;exact absurd (z0u ha hn) hno
   ·exact .inr ⟨h4,h5⟩
  ·rintro (h5|⟨_,h5⟩)
   ·exact .inl (.inl h5)
   ·exact .inr h5
 ·rw [if_neg h4,hH];constructor
  ·exact .inl
  ·rintro (h5|⟨h5,_⟩)
   ·exact h5
   ·exact absurd h5 h4
theorem w7p (h:QO p=true) (hj:p.procs[j]? = some f) {t:S} (ht:t∈flL f.body) : ∃ it,(sheetOf p).l[(t.id-1).toNat]? = some it∧it.s=t:=by
 have h1:=PN h hj ht;unfold z9l at h1;obtain ⟨it,h2,h3⟩:=Option.map_eq_some_iff.1 h1;exact ⟨it,h2,h3⟩
theorem w6n (h:QO p=true) (hj:p.procs[j]? = some f) {t:S} (ht:t∈flL f.body) (O:List (List Str)):HM (dfB p O) t.id=VK (HU (bkO p O) t):=by
 obtain ⟨it,h1,rfl⟩:=w7p h hj ht;unfold HM dfB;rw [List.getD_eq_getElem?_getD,List.getElem?_map,h1];rfl
theorem w8c (h:QO p=true) (hj:p.procs[j]? = some f) {t:S} (ht:t∈flL f.body) (I:List (List Str)):HM (usB p I) t.id=VK (NM (bkI p I) t):=by
 obtain ⟨it,h1,rfl⟩:=w7p h hj ht;unfold HM usB;rw [List.getD_eq_getElem?_getD,List.getElem?_map,h1];rfl
theorem w3l {O:List (List Str)} (h:QO p=true) (hO:rdO p O=O) (hj:p.procs[j]? = some f) {t:S} (ht:t∈flL f.body) (hl:Rch (wR p j f) 0 t.id) {n:Str} (hd:n∈HU (bkO p O) t) (ho:outB p f n=true):n∈O.getD j []:=by
 have hjl:j<p.procs.length:=(List.getElem?_eq_some_iff.1 hj).1;have hp:=FM hj;have hit:t∈(itsOf p j f).map Item.s:=by
  show t∈(itL (j:Nat) 0 (-1) 0 (QL p.procs j) f.body).map Item.s;rw [MJ];exact ht
 obtain ⟨it,hi,rfl⟩:=List.mem_map.1 hit;have hb:=WT (QP h).1 hj ht;rw [<- hO];unfold rdO;rw [x3m hjl,hp];refine ⟨it,hi,?_,?_,ho⟩
 ·unfold lvB;rw [hp];exact (x1d h hj (.inr (.inr hb))).2 hl
 ·rw [w6n h hj ht];exact XF.2 hd
theorem z8q (h:QO p=true) (hj:p.procs[j]? = some f) {x:Int} (hx:Rch (dR p j f) 0 x):x = -1∨Rch (wR p j f) 0 x:=by
 induction hx with
 | refl=>exact .inr .refl
 | tail h1 h2 ih =>
   rcases (z6r h hj).1 h2 with h3|⟨_,_,_,_,_,_,_,rfl⟩
   ·rcases ih with rfl|ih
    ·exfalso;exact (w1x h hj ((x4b h hj).2 (.inl h3))).2.2.1 rfl
    ·exact .inr (.tail ih h3)
   ·exact .inl rfl
theorem v1h (h:QO p=true) (hj:p.procs[j]? = some f) {D:List (List Str)} {x:Str} {a:Int} (ha:Rch (nR p j f D x) 0 a) : ∃ y,plP p j f y∧ixI p j f y=a∧Rch (dR p j f) 0 y:=by
 induction ha with
 | refl=>exact ⟨0,.inl rfl,by unfold ixI ZO;rw [if_pos rfl],.refl⟩
 | tail h1 h2 ih =>
   obtain ⟨y,h3,h4,h5⟩:=ih;obtain ⟨s,hs,he⟩:=List.mem_map.1 h2.2;obtain ⟨h6,h7⟩:=w0a h hj ⟨s,hs,rfl,rfl⟩;have e1:ixI p j f s.src=_:=congrArg Prod.fst he;have e2:ixI p j f s.dst=_:=congrArg Prod.snd he;have h8:=HY h6 h3 (e1.trans h4.symm);exact ⟨s.dst,h7,e2,.tail h5 ⟨s,hs,h8,rfl⟩⟩
theorem w4c {y:Int} (hy:plP p j f y):idN p j f (ixI p j f y)=y:=z1s hy
theorem w7q {U:List (List Str)} {o:List Str} {x:Str} (hj:p.procs[j]? = some f) (h:QO p=true) {y:Int} (hy:plP p j f y) (hh:hitN p j f U o x (ixI p j f y)=true):(y = -1∧x∈o) ∨ ∃ t∈flL f.body,t.id=y∧x∈HM U y:=by
 have hr:=YY hy;unfold hitN at hh;by_cases hE:ixI p j f y=(cntL f.body+2:Nat)-1
 ·rw [decide_eq_true hE] at hh;exact .inl ⟨HY hy (.inr (.inl rfl)) (hE.trans ix_exit.symm),XN.1 hh⟩
 ·rw [decide_eq_false hE] at hh;by_cases h0:0<ixI p j f y
  ·rw [decide_eq_true h0] at hh;have h1:=XN.1 hh;rw [w4c hy] at h1;rcases hy with rfl|rfl|⟨h2,h3⟩
   ·unfold ixI ZO at h0;rw [if_pos rfl] at h0;omega
   ·exact absurd ix_exit hE
   ·obtain ⟨t,ht,_,h4⟩:=q4b h hj h2 h3;exact .inr ⟨t,ht,h4,h1⟩
  ·rw [decide_eq_false h0] at hh;cases hh
theorem z8s (h:QO p=true) {O:List (List Str)} (hO:rdO p O=O) : ∀ (k j:Nat),tapeS∈(itI p (dfB p O) O k).getD j []->tapeS∈O.getD j []
 | 0,j,hn=>by
   unfold itI at hn;rw [List.getD_eq_getElem?_getD,List.getElem?_replicate] at hn;split at hn<;>cases hn
 | k+1,j,hn=>by
   by_cases hi:j<p.procs.length
   ·have hj:=q9i hi;have hf:prA p j∈p.procs:=List.mem_of_getElem? hj;obtain ⟨_,h2⟩:=(q6b hi).1 hn;obtain ⟨a,h3,h4⟩:=(JY h hj).1 h2;obtain ⟨y,hy,rfl,hd⟩:=v1h h hj h3;rcases w7q hj h hy h4 with ⟨_,h5⟩|⟨t,ht,rfl,h5⟩
    ·exact h5
    ·rw [w8c h hj ht,XF,z1r h hf ht] at h5;have hl:Rch (wR p j (prA p j)) 0 t.id:=by
      rcases z8q h hj hd with h6|h6
      ·have:=(WT (QP h).1 hj ht).1;omega
      ·exact h6
     refine w3l h hO hj ht hl ((z1a h hf ht).2 ?_) (x0a.2 (.inl (.inl rfl)));rcases h5 with h5|⟨h5,h6⟩
     ·exact .inl h5
     ·exact .inr ⟨h5,z8s h hO k _ h6⟩
   ·exact (x9y hi hn).elim
theorem z9o (h:QO p=true) {Q:Str->Prop} (hQ : ∀ (k:Nat) (f:Pr) (E:List Str),p.procs[k]? = some f->(∀ s∈E,Q s)->v1b p k f E->Q f.name) : ∀ s∈q8y p,Q s:=by
 have one : ∀ (st:List Str×Bool) (k:Nat),(∀ s∈st.1,Q s) -> ∀ s∈(w6v p st k).1,Q s:=fun st k hs=>by
  unfold w6v;cases hk:p.procs[k]? with
  | none=>exact hs
  | some f =>
    cases hq:(!(st.1.any fun s=>f.name==s)&&x2i (QQ p k f) f st.1) with
    | false=>simp only [hq,cond_false];exact hs
    | true =>
      simp only [hq,cond_true];rw [Bool.and_eq_true] at hq;intro s hm;rcases List.mem_append.1 hm with hm|hm
      ·exact hs s hm
      ·rw [List.mem_singleton.1 hm];exact hQ k f st.1 hk hs ((z4o h hk st.1).1 hq.2)
 have fold : ∀ (l:List Nat) (st:List Str×Bool),(∀ s∈st.1,Q s) -> ∀ s∈(l.foldl (w6v p) st).1,Q s:=fun l=>by
  induction l with
  | nil=>exact fun st hs=>hs
  | cons k r ih=>exact fun st hs=>ih _ (one st k hs)
 have all : ∀ (k:Nat) (out:List Str),(∀ s∈out,Q s) -> ∀ s∈x1a p k out,Q s:=fun k=>by
  induction k with
  | zero=>exact fun out hs=>hs
  | succ k ih =>
    intro out hs;have h1:=fold (List.range p.procs.length) (out,false) hs;show ∀ s∈(bif (q2d p out).2 then x1a p k (q2d p out).1 else (q2d p out).1),Q s;cases (q2d p out).2 with
    | true=>exact ih _ h1
    | false=>exact h1
 intro s hs;unfold q8y at hs;rw [h] at hs;exact all _ [] (fun s hs=>(by cases hs)) s (LW.1 hs)
theorem w5w (h:QO p=true) (hj:p.procs[j]? = some f) {D:List (List Str)} {x:Str} {a b:Int} (hw:wR p j f a b) (hp:HB p j f D x (ixI p j f a)=true):nR p j f D x (ixI p j f a) (ixI p j f b):=by
 have hd:=(z6r h hj).2 (.inl hw);obtain ⟨h1,h2⟩:=w0a h hj hd;exact ⟨hp,(w0m h hj h1 h2).2 hd⟩
theorem w7b {U:List (List Str)} {o:List Str} {x:Str} (h:QO p=true) (hj:p.procs[j]? = some f) {t:S} (ht:t∈flL f.body) (hu:x∈HM U t.id):hitN p j f U o x (ixI p j f t.id)=true:=by
 have hb:=WT (QP h).1 hj ht;have hy:plP p j f t.id := .inr (.inr hb);have hr:=YY hy;unfold hitN;have hE : ¬ixI p j f t.id=(cntL f.body+2:Nat)-1:=fun he=>by
  have:=HY hy (.inr (.inl rfl)) (he.trans ix_exit.symm);omega
 have h0:0<ixI p j f t.id:=by
  rcases Int.lt_or_le 0 (ixI p j f t.id) with h1|h1
  ·exact h1
  ·have h2:ixI p j f t.id=ixI p j f 0:=by
    have:ixI p j f 0=0:=by unfold ixI ZO;rw [if_pos rfl]
    omega
   have:=HY hy (.inl rfl) h2;omega
 rw [decide_eq_false hE,decide_eq_true h0];show inS (HM U (idN p j f (ixI p j f t.id))) x=true;rw [w4c hy];exact XN.2 hu
theorem w1l {D:List (List Str)} {x:Str} (h:QO p=true) (hj:p.procs[j]? = some f) {y:Int} (hy:plP p j f y) (hne:y ≠ -1) (hp:HB p j f D x (ixI p j f y)=false) : ∃ t∈flL f.body,t.id=y∧x∈HM D y:=by
 unfold HB at hp;by_cases hE:ixI p j f y=(cntL f.body+2:Nat)-1
 ·exact absurd (HY hy (.inr (.inl rfl)) (hE.trans ix_exit.symm)) hne
 ·rw [decide_eq_false hE] at hp;by_cases h0:0<ixI p j f y
  ·rw [decide_eq_true h0] at hp;have h1:inS (HM D (idN p j f (ixI p j f y))) x=true:=by simpa using hp
   rw [w4c hy] at h1;rcases hy with rfl|rfl|⟨h2,h3⟩
   ·unfold ixI ZO at h0;rw [if_pos rfl] at h0;omega
   ·exact absurd rfl hne
   ·obtain ⟨t,ht,_,h4⟩:=q4b h hj h2 h3;exact ⟨t,ht,h4,XN.1 h1⟩
  ·rw [decide_eq_false h0] at hp;cases hp
theorem w3w (h:QO p=true) {O I:List (List Str)} (hI:rdI p (dfB p O) O I=I) : ∀ s∈q8y p,∀ (j:Nat) (f:Pr),p.procs[j]? = some f->f.name=s->tapeS∈O.getD j []->tapeS∈I.getD j []:=by
 refine z9o h fun k f E hk hE hend j g hj hn ho => ?_;obtain ⟨rfl,rfl⟩:=x2a h hj hk hn;have hi:j<p.procs.length:=(List.getElem?_eq_some_iff.1 hj).1;have hp:=FM hj;have hf:g∈p.procs:=List.mem_of_getElem? hj;have key : ∀ y,Rch (stR ((QQ p j g).real.filter (q7l p E))) 0 y->z1i p j g (dfB p O) (usB p I) (O.getD j []) tapeS=true∨(Rch (nR p j g (dfB p O) tapeS) 0 (ixI p j g y)∧plP p j g y):=fun y hy=>by
  induction hy with
  | refl=>exact .inr ⟨by rw [show ixI p j g 0=0 by unfold ixI ZO;rw [if_pos rfl]];exact .refl,.inl rfl⟩
  | tail h1 h2 ih =>
    rcases ih with ih|⟨ih,hpl⟩
    ·exact .inl ih
    obtain ⟨s,hs,h3,h4⟩:=h2;obtain ⟨h5,h6⟩:=List.mem_filter.1 hs;have hw:wR p j g s.src s.dst:=⟨s,h5,rfl,rfl⟩;have hne:s.src ≠ -1:=((w1x h hj ((x4b h hj).2 (.inl hw))).2.2.1);subst h3 h4;cases hq:HB p j g (dfB p O) tapeS (ixI p j g s.src) with
    | true=>exact .inr ⟨.tail ih (w5w h hj hw hq),(ZY h hj s h5).2⟩
    | false =>
      left;obtain ⟨t,ht,h7,h8⟩:=w1l h hj hpl hne hq;rw [<- h7] at h8 ih;rw [w6n h hj ht,XF,z1a h hf ht] at h8;refine (JY h hj).2 ⟨_,ih,w7b h hj ht ?_⟩;rw [w8c h hj ht,XF,z1r h hf ht];rcases h8 with h8|⟨h8,h9⟩
      ·exact .inl h8
      refine .inr ⟨h8,?_⟩;have ht':t∈VA p:=List.mem_flatMap.2 ⟨g,hf,ht⟩;obtain ⟨m,hm,hc1,_,hc2,_⟩:=DY h ht' h8;rw [hc1,Int.toNat_natCast] at h9 ⊢;refine hE t.proc ?_ m (prA p m) (q9i hm) hc2 h9;unfold q7l at h6;have hid:=(WT (QP h).1 hj ht).1;rw [<- h7,PN h hj ht,decide_eq_false (by omega),Bool.false_or] at h6;have h10:(E.any fun x=>t.proc==x)=true:=by
       cases he:E.any fun x=>t.proc==x with
       | true=>rfl
       | false =>
         have h11:(!(decide (t.kind=4) && !(E.any fun x=>t.proc==x)))=true:=h6;rw [he,decide_eq_true h8] at h11;cases h11
      obtain ⟨x,hx,he⟩:=List.any_eq_true.1 h10;rw [eq_of_beq he];exact hx
 have hned:z1i p j g (dfB p O) (usB p I) (O.getD j []) tapeS=true:=by
  rcases key (-1) hend with h1|⟨h1,_⟩
  ·exact h1
  ·refine (JY h hj).2 ⟨_,h1,?_⟩;unfold hitN;rw [decide_eq_true ix_exit];exact XN.2 ho
 rw [<- hI];unfold rdI;rw [q6b hi,hp];exact ⟨KI.2 (.inl rfl),hned⟩
end
theorem w5n {p:Pg} (h:QO p=true) (k:Int):(allR p).length<=1000∧(q9b p k).length<=1000000:=by
 have h1:=(JI (QP h).1).len;refine ⟨by omega,?_⟩;unfold q9b;rw [length_map];have:=List.length_filter_le (x2l k) (allR p);omega
theorem x5k {p:Pg} {m:Int} (h:x0w p m=true):QO p=true:=by
 unfold x0w at h;rw [Bool.and_eq_true] at h;exact h.1
theorem YL (p:Pg) (hf:Fit p) (most:Int):SpecP Tryz.prog 31 [.agg p.cells,.int .i64 most] (fun r=>r = .bool (x0w p most)):=by
 refine sB FV Tryz.func31 rfl Tryz.call31 ?_;conv=>whnf
 have hC:=YP p hf;unfold x0w;cases hc:QO p with
 | false =>
   rw [hc] at hC;repeat' (first|((first|(refine iM fun _=>?_)|refine dA ?_|refine And.intro rfl ?_|refine aD ?_|refine aR ?_|refine bP ?_|(refine iA fun _=>?_)|refine IdxK.xs (by omega) ?_|refine QX (by omega) ?_|(refine ByteK.at (by omega) ?_)|refine wI ?_|refine cP hC ?_);conv=>whnf)|(apply bD<;>intro _<;>first|omega|conv=>whnf)|(apply bE<;>intro _<;>first|omega|conv=>whnf)|(apply bN<;>intro _<;>conv=>whnf)|(apply bB<;>intro _<;>conv=>whnf))
   all_goals first
    | contradiction
    | exact RetK.ff rfl
 | true =>
   rw [hc] at hC;have hcn:=(ZZ hc).2.2;have hT:=z2o p (by omega);repeat' (first|((first|(refine iM fun _=>?_)|refine dA ?_|refine And.intro rfl ?_|refine aD ?_|refine aR ?_|refine bP ?_|(refine iA fun _=>?_)|refine IdxK.xs (by omega) ?_|refine QX (by omega) ?_|(refine ByteK.at (by omega) ?_)|refine wI ?_|refine cP hC ?_|refine cP hT ?_);conv=>whnf)|(apply bD<;>intro _<;>first|omega|conv=>whnf)|(apply bE<;>intro _<;>first|omega|conv=>whnf)|(apply bN<;>intro _<;>conv=>whnf)|(apply bB<;>intro _<;>conv=>whnf))
   all_goals first
    | contradiction
    | exact RetK.bool rfl
theorem x9k {p:Pg} (h:QO p=true) {k:Nat} {f:Pr} (hk:p.procs[k]? = some f):q2u p f.name=(k:Nat)∧KU p f.name=(QT p).outs.getD k []∧z1p p f.name=(QT p).ins.getD k []:=by
 have hm:f.name∈QH p:=List.mem_map.2 ⟨f,List.mem_of_getElem? hk,rfl⟩;obtain ⟨m,hm1,h1,_,h3,h4⟩:=q4s hm;obtain ⟨rfl,_⟩:=x2a h (List.getElem?_eq_getElem hm1) hk h4;have e:q2u p f.name=(m:Nat):=h1;refine ⟨e,?_,?_⟩
 ·unfold KU;rw [if_pos ⟨h,by omega⟩,e];rfl
 ·unfold z1p;rw [if_pos ⟨h,by omega⟩,e];rfl
theorem w5a {p:Pg} {n:Str} (h:0<=q2u p n) : ∃ (k:Nat) (f:Pr),p.procs[k]? = some f∧f.name=n:=by
 unfold q2u q0y at h;cases hq:p.procs.any fun f=>f.name==n with
 | true =>
   obtain ⟨x,h1,h2⟩:=List.any_eq_true.1 hq;obtain ⟨k,hk,rfl⟩:=List.mem_iff_getElem.1 h1;exact ⟨k,_,List.getElem?_eq_getElem hk,by simpa using h2⟩
 | false =>
   rw [hq,cond_false] at h;omega
theorem z3j {p:Pg} (h:QO p=true) (n:Str):(tapeS∈z1p p n->tapeS∈KU p n)∧(tapeS∈KU p n->n∈q8y p->tapeS∈z1p p n):=by
 by_cases h0:0<=q2u p n
 ·obtain ⟨k,f,hk,rfl⟩:=w5a h0;obtain ⟨_,e1,e2⟩:=x9k h hk;have hb:=BS h;obtain ⟨m,hm⟩:=hb.ins;have hfO:=hb.fixO;have hfI:=hb.fixI;have hD:=hb.defs;rw [hD] at hm hfI;rw [e1,e2];refine ⟨fun h1=>z8s h hfO m k (by rw [<- hm];exact h1),fun h1 h2=>w3w h hfI f.name h2 k f hk rfl h1⟩
 ·have e1:z1p p n=[]:=by unfold z1p;rw [if_neg fun hh=>h0 hh.2]
  have e2:KU p n=[]:=by unfold KU;rw [if_neg fun hh=>h0 hh.2]
  rw [e1,e2];exact ⟨fun h1=>h1,fun h1=>(by cases h1)⟩
theorem GK (p:Pg) (n:Int):SpecP Tryz.prog 6 [.agg p.cells,.int .i64 n] (fun r=>r = .tt):=by
 refine sB JF Tryz.func6 rfl Tryz.call6 ?_;conv=>whnf
 cases hfb:z7f p with
 | false =>
   have hno : ¬gPg p<=20000:=by unfold z7f at hfb;simpa using hfb
   repeat' (first|((first|(refine iM fun _=>?_)|refine cP (QE _) ?_|refine dA ?_|refine And.intro rfl ?_|refine aD ?_|refine aR ?_|refine bP ?_|(refine iA fun _=>?_)|refine IdxK.xs (by omega) ?_|refine QX (by omega) ?_|(refine ByteK.at (by omega) ?_)|refine wI ?_|refine cP QB ?_);conv=>whnf)|(apply bD<;>intro _<;>first|omega|conv=>whnf)|(apply bE<;>intro _<;>first|omega|conv=>whnf)|(apply bN<;>intro _<;>conv=>whnf)|(apply bB<;>intro _<;>conv=>whnf))
   all_goals first
    | exact ⟨_,.p (Sub.refl _),rfl⟩
    | (exfalso;simp_all;done)
 | true =>
   have hf:Fit p:=w4k hfb;have hfit:gPg p<=20000:=by unfold z7f at hfb;simpa using hfb
   have hS:=YL p hf 60;cases hs:x0w p 60 with
   | false =>
     rw [hs] at hS;repeat' (first|((first|(refine iM fun _=>?_)|refine cP (QE _) ?_|refine dA ?_|refine And.intro rfl ?_|refine aD ?_|refine aR ?_|refine bP ?_|(refine iA fun _=>?_)|refine IdxK.xs (by omega) ?_|refine QX (by omega) ?_|(refine ByteK.at (by omega) ?_)|refine wI ?_|refine cP QB ?_|refine cP hS ?_);conv=>whnf)|(apply bD<;>intro _<;>first|omega|conv=>whnf)|(apply bE<;>intro _<;>first|omega|conv=>whnf)|(apply bN<;>intro _<;>conv=>whnf)|(apply bB<;>intro _<;>conv=>whnf))
     all_goals first
      | contradiction
      | exact ⟨_,.p (Sub.refl _),rfl⟩
   | true =>
     rw [hs] at hS;have hc:=x5k hs;have hPA:=PR p n (by have:=(ZZ hc).2.1;omega);obtain ⟨q1,q2⟩:=z3j hc (NG p n);have hI:=x4y p hf (NG p n);have hO:=DS p hf (NG p n);have hE:=w0b p hf;generalize NG p n=pn at *
     generalize z1p p pn=li at *
     generalize KU p pn=lo at *
     generalize q8y p=le at *
     have hi:=XQ li tapeS;have ho:=XQ lo tapeS;have he:=XQ le pn;have hcases:(inS li tapeS=true∧inS lo tapeS=true)∨(inS li tapeS=false∧inS lo tapeS=false)∨(inS li tapeS=false∧inS lo tapeS=true∧inS le pn=false):=by
      cases h1:inS li tapeS with
      | true=>exact .inl ⟨rfl,XN.2 (q1 (XN.1 h1))⟩
      | false =>
        cases h2:inS lo tapeS with
        | false=>exact .inr (.inl ⟨rfl,rfl⟩)
        | true =>
          cases h3:inS le pn with
          | false=>exact .inr (.inr ⟨rfl,rfl,rfl⟩)
          | true =>
            have:=q2 (XN.1 h2) (XN.1 h3);rw [<- XN,h1] at this;cases this
     rcases hcases with ⟨h1,h2⟩|⟨h1,h2⟩|⟨h1,h2,h3⟩;rotate_left 2;rw [h3] at he;all_goals
      rw [h1] at hi;rw [h2] at ho;repeat' (first|((first|(refine iM fun _=>?_)|refine cP (QE _) ?_|refine dA ?_|refine And.intro rfl ?_|refine aD ?_|refine aR ?_|refine bP ?_|(refine iA fun _=>?_)|refine IdxK.xs (by omega) ?_|refine QX (by omega) ?_|(refine ByteK.at (by omega) ?_)|refine wI ?_|refine cP QB ?_|refine cP hS ?_|refine cP hPA ?_|refine cP hI ?_|refine cP hO ?_|refine cP hi ?_|refine cP ho ?_|refine cP hE ?_|refine cP he ?_);conv=>whnf)|(apply bD<;>intro _<;>first|omega|conv=>whnf)|(apply bE<;>intro _<;>first|omega|conv=>whnf)|(apply bN<;>intro _<;>conv=>whnf)|(apply bB<;>intro _<;>conv=>whnf)|(refine And.intro ?_ ?_<;>conv=>whnf))
      all_goals first
       | contradiction
       | exact ⟨_,.p (Sub.refl _),rfl⟩
       | exact ⟨_,.p w4y,rfl⟩
       | exact ⟨_,.p (q2v rfl),rfl⟩
       | trace_state
end Go.Ab
