/- inout: what statements define and use, what goes in and out. -/
import Derived.Test.YtkgbhpcfnpfpcaaGreatInoS4
import Derived.Test.YtkgbhpcfnpfpcaaGreatInoS14
import Derived.Test.YtkgbhpcfnpfpcaaGreatInoS16
import Derived.Test.YtkgbhpcfnpfpcaaGreatInoS17
import Derived.Test.YtkgbhpcfnpfpcaaGreatInoS18
import Derived.Test.YtkgbhpcfnpfpcaaGreatInoS19
set_option linter.unusedSimpArgs false
set_option linter.unusedVariables false
set_option maxRecDepth 100000
set_option maxHeartbeats 16000000
open List (length_append length_map)
open Nat (zero_le)
namespace Go.Ab
open Go.Proofs
def MJ (p:Pg) (n:Str):Int:=q0t (fun f=>f.name==n) p.procs
noncomputable def DK (p:Pg) (n:Str):List Str:=if XB p=true∧0<=MJ p n then (QF p).outs.getD (MJ p n).toNat [] else []
noncomputable def x5w (p:Pg) (n:Str):List Str:=if XB p=true∧0<=MJ p n then (QF p).ins.getD (MJ p n).toNat [] else []
noncomputable def DB (p:Pg) (id:Int):List Str:=if XB p=true∧1<=id∧id<=(sheetOf p).l.length then (QF p).defs.getD (id-1).toNat [] else []
noncomputable def DF (p:Pg) (id:Int):List Str:=if XB p=true∧1<=id∧id<=(sheetOf p).l.length then (QF p).uses.getD (id-1).toNat [] else []
theorem z7a {p:Pg} {n:Str} (h:0<=MJ p n):(MJ p n).toNat<p.procs.length:=by
 unfold MJ q0t at h ⊢;cases hq:p.procs.any fun f=>f.name==n with
 | true =>
   rw [cond_true];obtain ⟨x,h1,h2⟩:=List.any_eq_true.1 hq;have:=List.findIdx_lt_length_of_exists (p:=fun f:Pr=>f.name==n) ⟨x,h1,h2⟩;simpa using this
 | false =>
   rw [hq,cond_false] at h;omega
theorem q9v {O:List (List Str)} {k:Nat} (h:k<O.length):(O.map eStrs)[k]? = some (eStrs (O.getD k [])):=by
 rw [List.getElem?_map,List.getD_eq_getElem?_getD,List.getElem?_eq_getElem h];rfl
theorem LF (p:Pg) (hf:Fit p) (n:Str):SpecP Tryz.prog 23 [.agg p.cells,.str n] (fun r=>r=eStrs (DK p n)):=by
 refine sB x3p Tryz.func23 rfl Tryz.call23 ?_;conv=>whnf
 have hB:=q2q p hf;cases hc:XB p with
 | false =>
   have e:DK p n=[]:=by unfold DK;rw [if_neg (by rw [hc];simp)]
   rw [e];have hB2:=hB.mono (R':=fun r=>r = .nilp) fun r hr=>hr.2 hc;repeat' (first|((first|(refine iM fun _=>?_)|refine dA ?_|refine And.intro rfl ?_|refine aD ?_|refine aR ?_|refine bP ?_|(refine iA fun _=>?_)|refine IdxK.xs (by omega) ?_|refine QZ (by omega) ?_|(refine ByteK.at (by omega) ?_)|refine wI ?_|refine cP hB2 ?_);conv=>whnf)|(apply bD<;>intro _<;>first|omega|conv=>whnf)|(apply bE<;>intro _<;>first|omega|conv=>whnf)|(apply bN<;>intro _<;>conv=>whnf)|(apply bB<;>intro _<;>conv=>whnf))
   all_goals first
    | contradiction
    | exact ⟨_,.p Sub.nils,rfl⟩
    | trace_state
 | true =>
   have hB2:=hB.mono (R':=fun r=>r = .ip (QF p).cells) fun r hr=>hr.1 hc;have hR:=KO hc;have hO:=(x0j hc).1.len;have hs:(QF p).s.p=p:=by rw [hR.s];exact (QK p).1
   have hPr:=WZ (QF p).s n;rw [hs] at hPr;have hPr2:SpecP Tryz.prog 80 [.ip (QF p).s.cells,.str n] (fun r=>r = .int .i64 (MJ p n)):=hPr;have hlt:=fun h=>z7a (p:=p) (n:=n) h;have hg:=fun h=>q9v (O:=(QF p).outs) (k:=(MJ p n).toNat) (by rw [hO];exact hlt h);have e:DK p n=if 0<=MJ p n then (QF p).outs.getD (MJ p n).toNat [] else []:=by
    unfold DK;by_cases h0:0<=MJ p n
    ·rw [if_pos ⟨hc,h0⟩,if_pos h0]
    ·rw [if_neg (fun h=>h0 h.2),if_neg h0]
   rw [e];generalize MJ p n=i at *
   generalize QF p=b at *
   by_cases h0:0<=i
   ·rw [if_pos h0];have hg:=hg h0;repeat' (first|((first|(refine iM fun _=>?_)|refine dA ?_|refine And.intro rfl ?_|refine aD ?_|refine aR ?_|refine bP ?_|(refine iA fun _=>?_)|refine IdxK.xs (by omega) ?_|refine QZ (by omega) ?_|(refine ByteK.at (by omega) ?_)|refine wI ?_|refine cP hB2 ?_|refine cP hPr2 ?_|(refine IdxK.at (k:=i.toNat) (by omega) hg rfl ?_));conv=>whnf)|(apply bD<;>intro _<;>first|omega|conv=>whnf)|(apply bE<;>intro _<;>first|omega|conv=>whnf)|(apply bN<;>intro _<;>conv=>whnf)|(apply bB<;>intro _<;>conv=>whnf)|(refine And.intro ?_ ?_<;>conv=>whnf))
    all_goals first
     | contradiction
     | exact RetK.p rfl
     | exact ⟨_,.p (Sub.refl _),rfl⟩
     | trace_state
   ·rw [if_neg h0];repeat' (first|((first|(refine iM fun _=>?_)|refine dA ?_|refine And.intro rfl ?_|refine aD ?_|refine aR ?_|refine bP ?_|(refine iA fun _=>?_)|refine IdxK.xs (by omega) ?_|refine QZ (by omega) ?_|(refine ByteK.at (by omega) ?_)|refine wI ?_|refine cP hB2 ?_|refine cP hPr2 ?_);conv=>whnf)|(apply bD<;>intro _<;>first|omega|conv=>whnf)|(apply bE<;>intro _<;>first|omega|conv=>whnf)|(apply bN<;>intro _<;>conv=>whnf)|(apply bB<;>intro _<;>conv=>whnf)|(refine And.intro ?_ ?_<;>conv=>whnf))
    all_goals first
     | contradiction
     | exact ⟨_,.p Sub.nils,rfl⟩
     | trace_state
theorem q2r (p:Pg) (hf:Fit p) (n:Str):SpecP Tryz.prog 21 [.agg p.cells,.str n] (fun r=>r=eStrs (x5w p n)):=by
 refine sB x6n Tryz.func21 rfl Tryz.call21 ?_;conv=>whnf
 have hB:=q2q p hf;cases hc:XB p with
 | false =>
   have e:x5w p n=[]:=by unfold x5w;rw [if_neg (by rw [hc];simp)]
   rw [e];have hB2:=hB.mono (R':=fun r=>r = .nilp) fun r hr=>hr.2 hc;repeat' (first|((first|(refine iM fun _=>?_)|refine dA ?_|refine And.intro rfl ?_|refine aD ?_|refine aR ?_|refine bP ?_|(refine iA fun _=>?_)|refine IdxK.xs (by omega) ?_|refine QZ (by omega) ?_|(refine ByteK.at (by omega) ?_)|refine wI ?_|refine cP hB2 ?_);conv=>whnf)|(apply bD<;>intro _<;>first|omega|conv=>whnf)|(apply bE<;>intro _<;>first|omega|conv=>whnf)|(apply bN<;>intro _<;>conv=>whnf)|(apply bB<;>intro _<;>conv=>whnf))
   all_goals first
    | contradiction
    | exact ⟨_,.p Sub.nils,rfl⟩
    | trace_state
 | true =>
   have hB2:=hB.mono (R':=fun r=>r = .ip (QF p).cells) fun r hr=>hr.1 hc;have hR:=KO hc;have hO:=(x0j hc).2.len;have hs:(QF p).s.p=p:=by rw [hR.s];exact (QK p).1
   have hPr:=WZ (QF p).s n;rw [hs] at hPr;have hPr2:SpecP Tryz.prog 80 [.ip (QF p).s.cells,.str n] (fun r=>r = .int .i64 (MJ p n)):=hPr;have hlt:=fun h=>z7a (p:=p) (n:=n) h;have hg:=fun h=>q9v (O:=(QF p).ins) (k:=(MJ p n).toNat) (by rw [hO];exact hlt h);have e:x5w p n=if 0<=MJ p n then (QF p).ins.getD (MJ p n).toNat [] else []:=by
    unfold x5w;by_cases h0:0<=MJ p n
    ·rw [if_pos ⟨hc,h0⟩,if_pos h0]
    ·rw [if_neg (fun h=>h0 h.2),if_neg h0]
   rw [e];generalize MJ p n=i at *
   generalize QF p=b at *
   by_cases h0:0<=i
   ·rw [if_pos h0];have hg:=hg h0;repeat' (first|((first|(refine iM fun _=>?_)|refine dA ?_|refine And.intro rfl ?_|refine aD ?_|refine aR ?_|refine bP ?_|(refine iA fun _=>?_)|refine IdxK.xs (by omega) ?_|refine QZ (by omega) ?_|(refine ByteK.at (by omega) ?_)|refine wI ?_|refine cP hB2 ?_|refine cP hPr2 ?_|(refine IdxK.at (k:=i.toNat) (by omega) hg rfl ?_));conv=>whnf)|(apply bD<;>intro _<;>first|omega|conv=>whnf)|(apply bE<;>intro _<;>first|omega|conv=>whnf)|(apply bN<;>intro _<;>conv=>whnf)|(apply bB<;>intro _<;>conv=>whnf)|(refine And.intro ?_ ?_<;>conv=>whnf))
    all_goals first
     | contradiction
     | exact RetK.p rfl
     | exact ⟨_,.p (Sub.refl _),rfl⟩
     | trace_state
   ·rw [if_neg h0];repeat' (first|((first|(refine iM fun _=>?_)|refine dA ?_|refine And.intro rfl ?_|refine aD ?_|refine aR ?_|refine bP ?_|(refine iA fun _=>?_)|refine IdxK.xs (by omega) ?_|refine QZ (by omega) ?_|(refine ByteK.at (by omega) ?_)|refine wI ?_|refine cP hB2 ?_|refine cP hPr2 ?_);conv=>whnf)|(apply bD<;>intro _<;>first|omega|conv=>whnf)|(apply bE<;>intro _<;>first|omega|conv=>whnf)|(apply bN<;>intro _<;>conv=>whnf)|(apply bB<;>intro _<;>conv=>whnf)|(refine And.intro ?_ ?_<;>conv=>whnf))
    all_goals first
     | contradiction
     | exact ⟨_,.p Sub.nils,rfl⟩
     | trace_state
theorem LW (p:Pg) (hf:Fit p) (id:Int):SpecP Tryz.prog 27 [.agg p.cells,.int .i64 id] (fun r=>r=eStrs (DB p id)):=by
 refine sB x4s Tryz.func27 rfl Tryz.call27 ?_;conv=>whnf
 have hB:=q2q p hf;cases hc:XB p with
 | false =>
   have e:DB p id=[]:=by unfold DB;rw [if_neg (by rw [hc];simp)]
   rw [e];have hB2:=hB.mono (R':=fun r=>r = .nilp) fun r hr=>hr.2 hc;repeat' (first|((first|(refine iM fun _=>?_)|refine dA ?_|refine And.intro rfl ?_|refine aD ?_|refine aR ?_|refine bP ?_|(refine iA fun _=>?_)|refine IdxK.xs (by omega) ?_|refine QZ (by omega) ?_|(refine ByteK.at (by omega) ?_)|refine wI ?_|refine cP hB2 ?_);conv=>whnf)|(apply bD<;>intro _<;>first|omega|conv=>whnf)|(apply bE<;>intro _<;>first|omega|conv=>whnf)|(apply bN<;>intro _<;>conv=>whnf)|(apply bB<;>intro _<;>conv=>whnf))
   all_goals first
    | contradiction
    | exact ⟨_,.p Sub.nils,rfl⟩
    | trace_state
 | true =>
   have hB2:=hB.mono (R':=fun r=>r = .ip (QF p).cells) fun r hr=>hr.1 hc;have hR:=KO hc;have hD:(QF p).defs.length=(sheetOf p).l.length:=by rw [hR.defs];exact length_map _
   have hcn:=(ZP hc).2.2;obtain ⟨_,_,_,hsl,_⟩:=QK p;have hH:SpecP Tryz.prog 86 [.ip (QF p).s.cells,.int .i64 id] (fun r=>r = .bool (decide (1<=id)&&decide (id<=(sheetOf p).l.length))):=by
    have h1:=DT (QF p).s id;rw [show (QF p).s.l=(sheetOf p).l by rw [hR.s]] at h1;exact h1
   have hg:=fun h=>q9v (O:=(QF p).defs) (k:=(id-1).toNat) h;have e:DB p id=if 1<=id∧id<=(sheetOf p).l.length then (QF p).defs.getD (id-1).toNat [] else []:=by
    unfold DB;by_cases h0:1<=id∧id<=(sheetOf p).l.length
    ·rw [if_pos ⟨hc,h0⟩,if_pos h0]
    ·rw [if_neg (fun h=>h0 h.2),if_neg h0]
   rw [e];generalize (sheetOf p).l.length=sl at *
   generalize QF p=b at *
   by_cases h0:1<=id∧id<=(sl:Int)
   ·rw [if_pos h0];rw [show (decide (1<=id)&&decide (id<=(sl:Int)))=true by simp [h0]] at hH;have hg:=hg (by omega);repeat' (first|((first|(refine iM fun _=>?_)|refine dA ?_|refine And.intro rfl ?_|refine aD ?_|refine aR ?_|refine bP ?_|(refine iA fun _=>?_)|refine IdxK.xs (by omega) ?_|refine QZ (by omega) ?_|(refine ByteK.at (by omega) ?_)|refine wI ?_|refine cP hB2 ?_|refine cP hH ?_|(refine IdxK.at (k:=(id-1).toNat) (by omega) hg rfl ?_));conv=>whnf)|(apply bD<;>intro _<;>first|omega|conv=>whnf)|(apply bE<;>intro _<;>first|omega|conv=>whnf)|(apply bN<;>intro _<;>conv=>whnf)|(apply bB<;>intro _<;>conv=>whnf)|(refine And.intro ?_ ?_<;>conv=>whnf))
    all_goals first
     | contradiction
     | exact RetK.p rfl
     | exact ⟨_,.p (Sub.refl _),rfl⟩
     | trace_state
   ·rw [if_neg h0];rw [show (decide (1<=id)&&decide (id<=(sl:Int)))=false by rw [Bool.and_eq_false_iff,decide_eq_false_iff_not,decide_eq_false_iff_not];omega] at hH;repeat' (first|((first|(refine iM fun _=>?_)|refine dA ?_|refine And.intro rfl ?_|refine aD ?_|refine aR ?_|refine bP ?_|(refine iA fun _=>?_)|refine IdxK.xs (by omega) ?_|refine QZ (by omega) ?_|(refine ByteK.at (by omega) ?_)|refine wI ?_|refine cP hB2 ?_|refine cP hH ?_);conv=>whnf)|(apply bD<;>intro _<;>first|omega|conv=>whnf)|(apply bE<;>intro _<;>first|omega|conv=>whnf)|(apply bN<;>intro _<;>conv=>whnf)|(apply bB<;>intro _<;>conv=>whnf)|(refine And.intro ?_ ?_<;>conv=>whnf))
    all_goals first
     | contradiction
     | exact ⟨_,.p Sub.nils,rfl⟩
     | trace_state
theorem q0x (p:Pg) (hf:Fit p) (id:Int):SpecP Tryz.prog 28 [.agg p.cells,.int .i64 id] (fun r=>r=eStrs (DF p id)):=by
 refine sB x3n Tryz.func28 rfl Tryz.call28 ?_;conv=>whnf
 have hB:=q2q p hf;cases hc:XB p with
 | false =>
   have e:DF p id=[]:=by unfold DF;rw [if_neg (by rw [hc];simp)]
   rw [e];have hB2:=hB.mono (R':=fun r=>r = .nilp) fun r hr=>hr.2 hc;repeat' (first|((first|(refine iM fun _=>?_)|refine dA ?_|refine And.intro rfl ?_|refine aD ?_|refine aR ?_|refine bP ?_|(refine iA fun _=>?_)|refine IdxK.xs (by omega) ?_|refine QZ (by omega) ?_|(refine ByteK.at (by omega) ?_)|refine wI ?_|refine cP hB2 ?_);conv=>whnf)|(apply bD<;>intro _<;>first|omega|conv=>whnf)|(apply bE<;>intro _<;>first|omega|conv=>whnf)|(apply bN<;>intro _<;>conv=>whnf)|(apply bB<;>intro _<;>conv=>whnf))
   all_goals first
    | contradiction
    | exact ⟨_,.p Sub.nils,rfl⟩
    | trace_state
 | true =>
   have hB2:=hB.mono (R':=fun r=>r = .ip (QF p).cells) fun r hr=>hr.1 hc;have hR:=KO hc;have hD:(QF p).uses.length=(sheetOf p).l.length:=by rw [hR.uses];exact length_map _
   have hcn:=(ZP hc).2.2;obtain ⟨_,_,_,hsl,_⟩:=QK p;have hH:SpecP Tryz.prog 86 [.ip (QF p).s.cells,.int .i64 id] (fun r=>r = .bool (decide (1<=id)&&decide (id<=(sheetOf p).l.length))):=by
    have h1:=DT (QF p).s id;rw [show (QF p).s.l=(sheetOf p).l by rw [hR.s]] at h1;exact h1
   have hg:=fun h=>q9v (O:=(QF p).uses) (k:=(id-1).toNat) h;have e:DF p id=if 1<=id∧id<=(sheetOf p).l.length then (QF p).uses.getD (id-1).toNat [] else []:=by
    unfold DF;by_cases h0:1<=id∧id<=(sheetOf p).l.length
    ·rw [if_pos ⟨hc,h0⟩,if_pos h0]
    ·rw [if_neg (fun h=>h0 h.2),if_neg h0]
   rw [e];generalize (sheetOf p).l.length=sl at *
   generalize QF p=b at *
   by_cases h0:1<=id∧id<=(sl:Int)
   ·rw [if_pos h0];rw [show (decide (1<=id)&&decide (id<=(sl:Int)))=true by simp [h0]] at hH;have hg:=hg (by omega);repeat' (first|((first|(refine iM fun _=>?_)|refine dA ?_|refine And.intro rfl ?_|refine aD ?_|refine aR ?_|refine bP ?_|(refine iA fun _=>?_)|refine IdxK.xs (by omega) ?_|refine QZ (by omega) ?_|(refine ByteK.at (by omega) ?_)|refine wI ?_|refine cP hB2 ?_|refine cP hH ?_|(refine IdxK.at (k:=(id-1).toNat) (by omega) hg rfl ?_));conv=>whnf)|(apply bD<;>intro _<;>first|omega|conv=>whnf)|(apply bE<;>intro _<;>first|omega|conv=>whnf)|(apply bN<;>intro _<;>conv=>whnf)|(apply bB<;>intro _<;>conv=>whnf)|(refine And.intro ?_ ?_<;>conv=>whnf))
    all_goals first
     | contradiction
     | exact RetK.p rfl
     | exact ⟨_,.p (Sub.refl _),rfl⟩
     | trace_state
   ·rw [if_neg h0];rw [show (decide (1<=id)&&decide (id<=(sl:Int)))=false by rw [Bool.and_eq_false_iff,decide_eq_false_iff_not,decide_eq_false_iff_not];omega] at hH;repeat' (first|((first|(refine iM fun _=>?_)|refine dA ?_|refine And.intro rfl ?_|refine aD ?_|refine aR ?_|refine bP ?_|(refine iA fun _=>?_)|refine IdxK.xs (by omega) ?_|refine QZ (by omega) ?_|(refine ByteK.at (by omega) ?_)|refine wI ?_|refine cP hB2 ?_|refine cP hH ?_);conv=>whnf)|(apply bD<;>intro _<;>first|omega|conv=>whnf)|(apply bE<;>intro _<;>first|omega|conv=>whnf)|(apply bN<;>intro _<;>conv=>whnf)|(apply bB<;>intro _<;>conv=>whnf)|(refine And.intro ?_ ?_<;>conv=>whnf))
    all_goals first
     | contradiction
     | exact ⟨_,.p Sub.nils,rfl⟩
     | trace_state
section
variable {a b:Str} {p:Pg} {i:Nat} {f:Pr}
theorem w4y (R:Ren a b) (t:S):x6v (swS a b t)=(x6v t).map (QQ a b):=by
 unfold x6v;rw [w4v,ZH,NO R,List.map_append];congr 1;split
 ·rw [List.map_singleton,FA R]
 ·rfl
theorem w6p (R:Ren a b) (x:Arg):usA (swA a b x)=(usA x).map (QQ a b):=by
 unfold usA;rw [List.map_append,show (swA a b x).x=swX a b x.x from rfl,NO R,show (swA a b x).ref=x.ref from rfl,show (swA a b x).name=QQ a b x.name from rfl];congr 1;split<;>rfl
theorem w4j (R:Ren a b) {I I':List (List Str)} (hI:SwR a b I' I) {t:S} {n:Str}:n∈DH (bkI (QS a b p) I') (swS a b t)↔QQ a b n∈DH (bkI p I) t:=by
 unfold DH;rw [ZH,w4y R,FC,List.flatMap_map,z5j,z5j,z3x];have e:(t.args.flatMap fun x=>usA (swA a b x))=(t.args.flatMap usA).map (QQ a b):=by
  rw [List.map_flatMap];congr 1;funext x;exact w6p R x
 rw [e];by_cases h4:t.kind=4
 ·rw [if_pos h4,if_pos h4,List.mem_append,List.mem_append,List.mem_append,List.mem_append,KW,KW];exact or_congr Iff.rfl (hI _ n)
 ·rw [if_neg h4,if_neg h4,KW]
theorem w2l (R:Ren a b) {I I':List (List Str)} (hI:SwR a b I' I):SwR a b (usB (QS a b p) I') (usB p I):=fun i n=>by
 unfold usB;rw [WY,WY,NV,List.getElem?_map];cases hi:(sheetOf p).l[i]? with
 | none=>simp
 | some it =>
   have h1:=w4j (p:=p) R hI (t:=it.s) (n:=n);constructor
   ·rintro ⟨x,hx,h2⟩;cases hx;exact ⟨it,rfl,XX.2 (h1.1 (XX.1 h2))⟩
   ·rintro ⟨x,hx,h2⟩;cases hx;exact ⟨swI a b it,rfl,XX.2 (h1.2 (XX.1 h2))⟩
theorem z9r:VU (QX (QS a b p) i (XH a b f)) (XH a b f)=VU (QX p i f) f:=by
 unfold VU;rw [z6i];congr 1;funext l;congr 1;funext id;exact w6x id
theorem w3t:YO (QX (QS a b p) i (XH a b f)) (XH a b f)=YO (QX p i f) f:=by
 unfold YO HV;have hr:(QX (QS a b p) i (XH a b f)).real=(QX p i f).real:=by rw [PI];rfl
 rw [z9r,hr,x0h,show (QX (QS a b p) i (XH a b f)).p=QS a b p from rfl,show (QX (QS a b p) i (XH a b f)).j=i from rfl,z6w];rfl
theorem w2i (x:Int):idN (QS a b p) i (XH a b f) x=idN p i f x:=by
 unfold idN;rw [q9g,x1h]
theorem z3v {l l':List Str} (h : ∀ n,n∈l'↔QQ a b n∈l) (n:Str):inS l' n=inS l (QQ a b n):=by
 refine Bool.eq_iff_iff.2 ?_;rw [YG,YG];exact h n
theorem w1y {D D':List (List Str)} (hD:SwR a b D' D) (n:Str) (x:Int):FK (QS a b p) i (XH a b f) D' n x=FK p i f D (QQ a b n) x:=by
 unfold FK;rw [q9g,w2i,z3v (l':=BC D' (idN p i f x)) (l:=BC D (idN p i f x)) fun m=>hD _ m]
theorem w5l {U U':List (List Str)} (hU:SwR a b U' U) {o o':List Str} (ho : ∀ n,n∈o'↔QQ a b n∈o) (n:Str) (x:Int):hitN (QS a b p) i (XH a b f) U' o' n x=hitN p i f U o (QQ a b n) x:=by
 unfold hitN;rw [q9g,w2i,z3v (l':=BC U' (idN p i f x)) (l:=BC U (idN p i f x)) fun m=>hU _ m,z3v ho]
theorem w4e (R:Ren a b) (hc:XB p=true) (hj:p.procs[i]? = some f) {D D' U U':List (List Str)} (hD:SwR a b D' D) (hU:SwR a b U' U) {o o':List Str} (ho : ∀ n,n∈o'↔QQ a b n∈o) (n:Str) :
  x8a (QS a b p) i (XH a b f) D' U' o' n=x8a p i f D U o (QQ a b n):=by
 have hc2:XB (QS a b p)=true:=by rw [q9j R,hc]
 have hj2:(QS a b p).procs[i]? = some (XH a b f):=by rw [show (QS a b p).procs=p.procs.map (XH a b) from rfl,List.getElem?_map,hj];rfl
 refine Bool.eq_iff_iff.2 ?_;rw [GF hc2 hj2,GF hc hj];have e:nR (QS a b p) i (XH a b f) D' n=nR p i f D (QQ a b n):=by
  funext x y;unfold nR;rw [w1y hD,w3t]
 rw [e];exact exists_congr fun x=>by rw [w5l hU ho]
theorem w6k (R:Ren a b) (hc:XB p=true) {D D' U U' O O':List (List Str)} (hD:SwR a b D' D) (hU:SwR a b U' U) (hO:SwR a b O' O):SwR a b (niB (QS a b p) D' U' O') (niB p D U O):=fun i n=>by
 have hl:(QS a b p).procs.length=p.procs.length:=length_map _;by_cases hi:i<p.procs.length
 ·rw [q4i (by rw [hl];exact hi),q4i hi,z3z hi,z2l R,w4e R hc (x8j hi) hD hU (fun m=>hO i m)]
 ·exact ⟨fun h=>(x0k (by rw [hl];exact hi) h).elim,fun h=>(x0k hi h).elim⟩
theorem w2w (R:Ren a b) (hc:XB p=true) {D D' O O':List (List Str)} (hD:SwR a b D' D) (hO:SwR a b O' O) : ∀ k,SwR a b (itI (QS a b p) D' O' k) (itI p D O k)
 | 0=>fun i n=>by
   have e : ∀ (m:Nat) (x:Str),¬x∈(List.replicate m ([]:List Str)).getD i []:=fun m x h=>by
    rw [List.getD_eq_getElem?_getD,List.getElem?_replicate] at h;split at h<;>cases h
   exact ⟨fun h=>absurd h (e _ _),fun h=>absurd h (e _ _)⟩
 | k+1=>w6k R hc hD (w2l R (w2w R hc hD hO k)) hO
theorem w5f (R:Ren a b) (hc:XB p=true):SwR a b (QF (QS a b p)).outs (QF p).outs∧SwR a b (QF (QS a b p)).defs (QF p).defs∧SwR a b (QF (QS a b p)).ins (QF p).ins∧SwR a b (QF (QS a b p)).uses (QF p).uses:=by
 have hc2:XB (QS a b p)=true:=by rw [q9j R,hc]
 have hb:=KO hc;have hb2:=KO hc2;obtain ⟨k,hk⟩:=hb.outs;obtain ⟨k2,hk2⟩:=hb2.outs;have hO:SwR a b (QF (QS a b p)).outs (QF p).outs:=by
  have h1:=PF (p:=p) (k:=k) (by rw [<- hk];exact hb.fixO) k2;have h2:=PF (p:=QS a b p) (k:=k2) (by rw [<- hk2];exact hb2.fixO) k;have h3:=w3q (p:=p) R hc (k+k2);rw [h1,Nat.add_comm k k2,h2,<- hk,<- hk2] at h3;exact h3
 have hD:SwR a b (QF (QS a b p)).defs (QF p).defs:=by
  rw [hb.defs,hb2.defs];exact w1r R hc hO
 obtain ⟨m,hm⟩:=hb.ins;obtain ⟨m2,hm2⟩:=hb2.ins;have hI:SwR a b (QF (QS a b p)).ins (QF p).ins:=by
  have h1:=ND (p:=p) (D:=(QF p).defs) (O:=(QF p).outs) (k:=m) (by rw [<- hm];exact hb.fixI) m2;have h2:=ND (p:=QS a b p) (D:=(QF (QS a b p)).defs) (O:=(QF (QS a b p)).outs) (k:=m2) (by rw [<- hm2];exact hb2.fixI) m;have h3:=w2w (p:=p) R hc hD hO (m+m2);rw [h1,Nat.add_comm m m2,h2,<- hm,<- hm2] at h3;exact h3
 refine ⟨hO,hD,hI,?_⟩;rw [hb.uses,hb2.uses];exact w2l R hI
theorem q0k {l l':List Str} (h':l'.Pairwise ltT) (h : ∀ n,n∈l'↔QQ a b n∈l):l'=XA (l.map (QQ a b)) :=
 q2z FM ltT.trans h' (WJ _) fun n=>by rw [XX,KW];exact h n
theorem z5l (n:Str):MJ (QS a b p) (QQ a b n)=MJ p n:=by
 unfold MJ q0t;rw [show (QS a b p).procs=p.procs.map (XH a b) from rfl,List.any_map,List.findIdx_map];have e:((fun g:Pr=>g.name==QQ a b n)∘XH a b)=fun g=>g.name==n:=by
  funext g;exact VN a b g.name n
 rw [e]
theorem z9o (R:Ren a b) (hc:XB p=true) (n:Str) (id:Int):DK (QS a b p) (QQ a b n)=XA ((DK p n).map (QQ a b))∧x5w (QS a b p) (QQ a b n)=XA ((x5w p n).map (QQ a b)) ∧
  DB (QS a b p) id=XA ((DB p id).map (QQ a b))∧DF (QS a b p) id=XA ((DF p id).map (QQ a b)):=by
 have hc2:XB (QS a b p)=true:=by rw [q9j R,hc]
 obtain ⟨hO,hD,hI,hU⟩:=w5f R hc;have k2:=x0j hc2;have b2:=KO hc2;have rD : ∀ o∈(QF (QS a b p)).defs,o.Pairwise ltT:=fun o ho=>by
  rw [b2.defs] at ho;obtain ⟨it,_,rfl⟩:=List.mem_map.1 ho;exact WJ _
 have rU : ∀ o∈(QF (QS a b p)).uses,o.Pairwise ltT:=fun o ho=>by
  rw [b2.uses] at ho;obtain ⟨it,_,rfl⟩:=List.mem_map.1 ho;exact WJ _
 have hl:(sheetOf (QS a b p)).l.length=(sheetOf p).l.length:=by rw [NV,length_map]
 refine ⟨?_,?_,?_,?_⟩
 ·unfold DK;rw [z5l];by_cases h0:0<=MJ p n
  ·rw [if_pos ⟨hc2,h0⟩,if_pos ⟨hc,h0⟩];exact q0k (UN k2.1.rise _) fun m=>hO _ m
  ·rw [if_neg fun h=>h0 h.2,if_neg fun h=>h0 h.2];exact q0k .nil fun m=>⟨fun h=>(by cases h),fun h=>(by cases h)⟩
 ·unfold x5w;rw [z5l];by_cases h0:0<=MJ p n
  ·rw [if_pos ⟨hc2,h0⟩,if_pos ⟨hc,h0⟩];exact q0k (UN k2.2.rise _) fun m=>hI _ m
  ·rw [if_neg fun h=>h0 h.2,if_neg fun h=>h0 h.2];exact q0k .nil fun m=>⟨fun h=>(by cases h),fun h=>(by cases h)⟩
 ·unfold DB;rw [hl];by_cases h0:1<=id∧id<=(sheetOf p).l.length
  ·rw [if_pos ⟨hc2,h0⟩,if_pos ⟨hc,h0⟩];exact q0k (UN rD _) fun m=>hD _ m
  ·rw [if_neg fun h=>h0 h.2,if_neg fun h=>h0 h.2];exact q0k .nil fun m=>⟨fun h=>(by cases h),fun h=>(by cases h)⟩
 ·unfold DF;rw [hl];by_cases h0:1<=id∧id<=(sheetOf p).l.length
  ·rw [if_pos ⟨hc2,h0⟩,if_pos ⟨hc,h0⟩];exact q0k (UN rU _) fun m=>hU _ m
  ·rw [if_neg fun h=>h0 h.2,if_neg fun h=>h0 h.2];exact q0k .nil fun m=>⟨fun h=>(by cases h),fun h=>(by cases h)⟩
end
section
variable {P:Program} {T:Tab} {N:Nat} {σ:Mem} {β:Lab} {a:Act} {w:World} {o:Oper} {K:St->Prop} {s:St}
theorem x6a (e:TypeId) {sz n:Nat} {cs:List LV} {vs:Array Value} (hrun:(execOp a.eval o).run P w = .ok (.value (.slice (some ⟨w.heap.size,0,none⟩) n n)) (w.alloc (.cells vs e))) (hr:Rel N σ β s a w) (hc:RepC σ β cs vs.toList)
  (hf : ∀ k,ZF k s=true->LV.free.freeAll k cs=true) (h63:n<=maxLen)
  (h:KJ 60 0 s fun k=>setD N s.sl o.dst (.hd k 0 n) fun sl=>K ⟨sl,(k,.obj e cs)::s.H⟩):x5v P N σ β a w s o K:=by
 intro Q;obtain ⟨k,hk,h⟩:=UU h;have hc':=hc.set (k:=k) (some ⟨w.heap.size,n,sz,[],h63⟩) (hf k hk);have hchunk:(Chunk.obj e cs).holds σ (β.set k (some ⟨w.heap.size,n,sz,[],h63⟩)) (w.alloc (.cells vs e)) k :=
  ⟨⟨w.heap.size,n,sz,[],h63⟩,vs,by simp [Lab.set],heap_alloc_new w _,by simpa using hc.1,fun j l hj=>by
    obtain ⟨u,h1,h2⟩:=hc'.2 j l hj;exact ⟨u,by simpa using h1,h2⟩⟩
 obtain ⟨hr',hl⟩:=hr.new hk rfl rfl hchunk;have hhd:=RepL.hd (σ:=σ) (β:=β.set k (some ⟨w.heap.size,n,sz,[],h63⟩)) k 0 n ⟨w.heap.size,n,sz,[],h63⟩ 0 (by simp [Lab.set]) (by simp) (.inl (by simp));simp only [Nat.sub_zero] at hhd;obtain ⟨sl,hK,hr''⟩:=hr'.setD hhd h;exact VX hrun ⟨σ,_,_,hK,hr'',hl⟩
theorem x2g {k:Nat} {place:Nat->Option (Nat×Nat)} : ∀ {ps:List (Nat×LV)} {cells out:List LV},q5t place cells ps=some out->(∀ l∈cells,l.free k=true)->(∀ x∈ps,x.2.free k=true) -> ∀ l∈out,l.free k=true
 | [],cells,out,h,hc,_=>by
   simp only [q5t,Option.some.injEq] at h;subst h;exact hc
 | (i,v)::r,cells,out,h,hc,hp=>by
   simp only [q5t] at h;split at h
   ·cases h
   ·rename_i off size hpl;split at h
    ·cases h
    ·rename_i vs hvs;cases hb:(vs.length==size&&Nat.ble (off+size) cells.length) with
     | false=>rw [hb] at h;cases h
     | true =>
       rw [hb,cond_true] at h;refine x2g h (fun l hl => ?_) fun x hx=>hp x (List.mem_cons_of_mem _ hx);rcases List.mem_append.1 hl with hl|hl
       ·rcases List.mem_append.1 hl with hl|hl
        ·exact hc l (List.mem_of_mem_take hl)
        ·exact GH.1 (DA hvs (hp (i,v) List.mem_cons_self)) l hl
       ·exact hc l (List.mem_of_mem_drop hl)
theorem z8w (hT:TabOK P T) {t:TypeId} {n:Nat} {parts:Array (Nat×Operand)} (hop:o.op = .buildSlice t n parts) {it:TyI} (ht:T.get t=some it) {e:TypeId} (hd:it.desc = .slice e) {ie:TyI} (hie:T.get e=some ie)
  (hsm:n*ie.size<=16777216) (hpos:0<ie.size) {out:List LV} (hout:q5t (fun i=>some (i*ie.size,ie.size)) (List.replicate (n*ie.size) (.p .any)) (parts.toList.map fun x=>(x.1,QT s.sl x.2))=some out)
  (h:KJ 60 0 s fun k=>setD N s.sl o.dst (.hd k 0 n) fun sl=>K ⟨sl,(k,.obj e out)::s.H⟩):OpK P N s o K:=by
 have hf : ∀ k,ZF k s=true->LV.free.freeAll k out=true:=fun k hk=>by
  refine GH.2 (x2g hout (fun l hl=>by rw [List.eq_of_mem_replicate hl];rfl) fun x hx => ?_);obtain ⟨y,_,rfl⟩:=List.mem_map.1 hx;exact MA hk y.2
 refine ⟨fun σ β a w hr => ?_⟩;have ht':=hT.of ht;rw [hd] at ht';have hok:=hT _ _ hie;have hrep : ∀ (j:Nat) (x:Nat×LV) (y:Nat×Value),(parts.toList.map fun x=>(x.1,QT s.sl x.2))[j]? = some x->(parts.toList.map fun x=>(x.1,a.eval x.2))[j]? = some y->RepL σ β x.2 y.2:=fun j x y hx hy=>by
  rw [List.getElem?_map] at hx hy;cases hq:parts.toList[j]? with
  | none=>rw [hq] at hx;cases hx
  | some q=>rw [hq] at hx hy;cases hx;cases hy;exact QV hr.slots _
 let zs:Array Value:=(Array.range (n*ie.size)).map (ie.zero.cells[· % ie.zero.cells.size]!);obtain ⟨cs,hcs,hrc⟩:=MV (σ:=σ) (β:=β) (place:=fun i=>some (i*ie.size,ie.size)) (placeL:=fun i=>some (i*ie.size,ie.size)) (fun _ _ h=>h) _ (parts.toList.map fun x=>(x.1,a.eval x.2)) _ zs out (by simp) hrep (GO (n*ie.size) zs.toList (by simp [zs])) hout;have hrun:(execOp a.eval o).run P w = .ok (.value (.slice (some ⟨w.heap.size,0,none⟩) n n)) (w.alloc (.cells cs e)):=by
  have hcs':Instr.fill (fun i=>some (i*ie.size,ie.size)) zs ((parts.map fun (i,x)=>(i,a.eval x)).toList)=some cs:=by
   rw [<- hcs];congr 1;simp
  by_cases h0:n*ie.size=0
  ·have hz:zs = #[]:=by apply Array.eq_empty_of_size_eq_zero;simp [zs,h0]
   have hz':zs=(Array.range (n*ie.size)).map ((#[]:Array Value)[· % (#[]:Array Value).size]!):=by rw [hz,h0];simp [Array.range_zero']
   have : ¬n*ie.size>16777216:=by omega
   rw [hz'] at hcs';simp only [execOp,hop,Instr.buildSlice,Sem.run_bind,run_underlying ht',Result.andThen_ok,hok.sizeOf,Nat.reducePow,if_neg this,if_pos h0,Sem.run_pure,hcs',newRow,run_newObj];rfl
  ·have : ¬n*ie.size>16777216:=by omega
   simp only [execOp,hop,Instr.buildSlice,Sem.run_bind,run_underlying ht',Result.andThen_ok,hok.sizeOf,Nat.reducePow,if_neg this,if_neg h0,hok.zeroValue,Sem.run_pure,zs] at hcs' ⊢;simp only [hcs',Sem.run_bind,newRow,run_newObj,Result.andThen_ok,Sem.run_pure];rfl
 have h63:n<=maxLen:=by
  have:n*1<=n*ie.size:=Nat.mul_le_mul_left _ hpos;simp only [maxLen];omega
 exact x6a (sz:=ie.size) e hrun hr hrc hf h63 h
end
theorem z0v (n:Nat) {es:List AV} {sz:Nat} {out:List LV} {Kp Ko:Prop} (hl:es.length=n) (hx:(es.all fun x=>x.cells.length==sz)=true) (ho:out=(es.flatMap AV.cells).map .p) (hK:Ko):BsK es sz out Kp Ko := .own (fun x h=>by simpa using List.all_eq_true.1 hx x h) ho hK
def rwS (id kind:Int) (name proc:Str) (x:List AV) (has args thn els:AV):AV := .agg ([.int .i64 id,.int .i64 kind,.nils,.str name,.str proc]++x++[has,args,thn,els])
def x0:List AV:=[.int .i64 0,.int .i64 0,.str [],.nils]
def bd0:List AV:=[rwS 1 1 [118] [] (X.mk 1 2 [] []).cells .ff .nils .nils .nils,
 rwS 2 4 [103] [112] x0 .ff (.sl [.agg ([.ff,.str []]++(X.mk 1 3 [] []).cells),.agg ([.tt,.str [118]]++x0)]) .nils .nils,
 rwS 3 3 [] [] (X.mk 2 0 [118] []).cells .ff .nils .nils .nils,rwS 4 3 [] [] (X.mk 2 0 [103] []).cells .ff .nils .nils .nils]
def bd1:List AV:=[rwS 5 1 [121] [] (X.mk 8 0 [] [.mk 2 0 [121] [],.mk 2 0 [120] []]).cells .ff .nils .nils .nils,
 rwS 6 5 [] [] (X.mk 12 0 [] [.mk 2 0 [121] [],.mk 1 9 [] []]).cells .ff .nils (.sl [rwS 7 10 [101] [] x0 .ff .nils .nils .nils]) .nils,
 rwS 8 9 [] [] (X.mk 2 0 [121] []).cells .tt .nils .nils .nils]
def prc (a b:Nat):List LV:=[.p (.str [109,97,105,110]),.p .nils,.p (.sl [.str [118]]),.hd a 0 4,.p .nils,.p (.str [112]),.p (.sl [.agg [.str [120],.ff],.agg [.str [121],.tt]]),.p .nils,.hd b 0 3,.p (.sl [.str [101]])]
def v2m:Heap:=[(5,.obj 98 (prc 1 3)),(3,.own 40 13 bd1),(1,.own 40 13 bd0),(0,.obj 25 [.p (.sl [.str [103]]),.hd 5 0 2])]
theorem w1m:SpecH Tryz.prog 72 [] [] (fun r H=>r = .agg [.p (.sl [.str [103]]),.hd 5 0 2]∧H=v2m):=by
 refine sH YE Tryz.func72 rfl Tryz.call72 ?_;conv=>whnf
 repeat' (first|((first|(refine iM fun _=>?_)|refine cP (GA _) ?_|refine cP (JL _) ?_|refine And.intro rfl ?_|refine aD ?_|refine aR ?_|(refine iA fun _=>?_)|refine IdxK.xs (by omega) ?_|refine QZ (by omega) ?_|(refine ByteK.at (by omega) ?_)|refine wI ?_|refine z0v 4 rfl rfl rfl ?_|refine z0v 3 rfl rfl rfl ?_|refine KN rfl rfl ?_|refine z8w QJ rfl rfl rfl rfl (by decide) (by decide) rfl ?_|refine cP (VZ 8 (.mk 2 0 [121] []) (.mk 2 0 [120] [])) ?_|refine cP (VZ 12 (.mk 2 0 [121] []) (.mk 1 9 [] [])) ?_);conv=>whnf)|(apply bD<;>intro _<;>first|omega|conv=>whnf)|(apply bE<;>intro _<;>first|omega|conv=>whnf)|(apply bN<;>intro _<;>conv=>whnf)|(apply bB<;>intro _<;>conv=>whnf))
 exact RetHK.mk _ (LSub.refl _) ⟨rfl,rfl⟩
theorem x7g {P:Program} {N:Nat} {g:FuncId} {args:List LV} {dst:Option Nat} {s:St} {K:St->Prop} {avs:List AV} (H1 H0:Heap) (sl0:List (Nat×LV)) (hH:s.H=H1++H0) (ha:FrzL H1 args avs)
  (hsl : ∀ i,getS sl0 i=getS s.sl i∨getS sl0 i = .p .any) (h:CallK P N g (avs.map .p) dst ⟨sl0,H0⟩ K):CallK P N g args dst s K:=by
 refine ⟨fun σ β a w hr vals hn hv => ?_⟩;obtain ⟨hlen,hget⟩:=ha.get;have hheap:=hr.heap;rw [hH] at hheap;have hl1 : ∀ k,k∈H1.map (·.1)->k∈(H1++H0).map (·.1):=fun k hk=>by rw [List.map_append];exact List.mem_append_left _ hk
 have hl0 : ∀ k,k∈H0.map (·.1)->k∈(H1++H0).map (·.1):=fun k hk=>by rw [List.map_append];exact List.mem_append_right _ hk
 have hnd:=hheap.nodup;rw [List.map_append,List.nodup_append] at hnd;have hr1:HRel σ β H1 w:=⟨hheap.mem,fun k c hc=>hheap.chunks k c (List.mem_append_left _ hc),hnd.1,fun k hk=>hheap.apart k (hl1 k hk),fun k hk k' hk'=>hheap.inj k (hl1 k hk) k' (hl1 k' hk')⟩;obtain ⟨τ,h5,h6,h7,h8⟩:=NK hr1;have hno : ∀ b,owns β H1 b->owns β H0 b->False:=fun b ⟨k,hk,i,hi,hb⟩ ⟨k',hk',i',hi',hb'⟩=>by
  have he:=hheap.inj k (hl1 k hk) k' (hl0 k' hk') i i' hi hi' b hb hb';exact hnd.2.2 k hk k' hk' he
 have hrel:Rel N τ β ⟨sl0,H0⟩ a w:=by
  refine ⟨hr.size,hr.defers,fun i => ?_,⟨h6,fun k c hc=>(hheap.chunks k c (List.mem_append_right _ hc)).mono h5 fun _ _ _ _=>rfl,hnd.2.1,fun k hk i hi b hb => ?_,fun k hk k' hk'=>hheap.inj k (hl0 k hk) k' (hl0 k' hk')⟩⟩
  ·rcases hsl i with he|he
   ·show RepL τ β (getS sl0 i) _;rw [he];exact (hr.slots i).mono h5
   ·show RepL τ β (getS sl0 i) _;rw [he];exact .p (.any _)
  ·have h9:=hheap.apart k (hl0 k hk) i hi b hb;refine ⟨?_,h9.2⟩;cases hq:τ b with
   | none=>rfl
   | some c =>
     rcases h7 b (by rw [hq];simp) with h10|h10
     ·exact absurd h9.1 h10
     ·exact (hno b h10 ⟨k,hk,i,hi,hb⟩).elim
 have hlat:Later σ β s.H w τ β H0 w:=by
  rw [hH];refine ⟨h5,Frm.refl _ _,fun b h0 h1 => ?_,fun b ⟨k,hk,r⟩ => .inl ⟨k,hl0 k hk,r⟩,fun _ _ _=>rfl⟩;rcases h7 b h1 with h2|⟨k,hk,r⟩
  ·exact absurd h0 h2
  ·exact .inl ⟨k,hl1 k hk,r⟩
 obtain ⟨q1,q2⟩:=h.ok τ β a w hrel vals (by rw [length_map,<- hlen];exact hn) fun j l hj=>by
  rw [List.getElem?_map] at hj;cases hq:avs[j]? with
  | none=>rw [hq] at hj;cases hj
  | some c =>
    rw [hq] at hj;cases hj;obtain ⟨l,h1,h2⟩:=hget j c hq;exact .p (h8 l _ c (hv j l h1) h2)
 exact ⟨q1,q2.mono fun e w' ⟨u,σ',β',s',he,hK,hr',hl'⟩=>⟨u,σ',β',s',he,hK,hr',hlat.trans hl'⟩⟩
def d0P:Pg:=⟨[[103]],[
 ⟨[109,97,105,110],[],[[118]],[
   .mk 1 1 [] [118] [] (.mk 1 2 [] []) false [] [] [],
   .mk 2 4 [] [] [112] (.mk 0 0 [] []) false [⟨false,[],.mk 1 3 [] []⟩,⟨true,[118],.mk 0 0 [] []⟩] [] [],
   .mk 3 3 [] [] [] (.mk 2 0 [118] []) false [] [] [],
   .mk 4 3 [] [] [] (.mk 2 0 [103] []) false [] [] []],[]⟩,
 ⟨[112],[⟨[120],false⟩,⟨[121],true⟩],[],[
   .mk 0 2 [] [120] [] (.mk 0 0 [] []) false [] [] [],
   .mk 6 5 [] [] [] (.mk 12 0 [] [.mk 2 0 [121] [],.mk 1 9 [] []]) false [] [.mk 7 10 [] [101] [] (.mk 0 0 [] []) false [] [] []] [],
   .mk 8 9 [] [] [] (.mk 2 0 [103] []) true [] [] []],[[101]]⟩]⟩
def dP:Pg:=⟨[[103]],[
 ⟨[109,97,105,110],[],[[118]],[
   .mk 1 1 [] [118] [] (.mk 1 2 [] []) false [] [] [],
   .mk 2 4 [] [] [112] (.mk 0 0 [] []) false [⟨false,[],.mk 1 3 [] []⟩,⟨true,[118],.mk 0 0 [] []⟩] [] [],
   .mk 3 3 [] [] [] (.mk 2 0 [118] []) false [] [] [],
   .mk 4 3 [] [] [] (.mk 2 0 [103] []) false [] [] []],[]⟩,
 ⟨[112],[⟨[120],false⟩,⟨[121],true⟩],[],[
   .mk 5 2 [] [120] [] (.mk 0 0 [] []) false [] [] [],
   .mk 6 5 [] [] [] (.mk 12 0 [] [.mk 2 0 [121] [],.mk 1 9 [] []]) false [] [.mk 7 10 [] [101] [] (.mk 0 0 [] []) false [] [] []] [],
   .mk 8 9 [] [] [] (.mk 2 0 [103] []) true [] [] []],[[101]]⟩]⟩
theorem w6y:w5e d0P=dP:=by kernel_rfl
theorem w3c:CopyF d0P:=by
 refine ⟨by decide,by decide,fun f hf => ?_⟩;have h2:f=d0P.procs[0]∨f=d0P.procs[1]:=by simpa [d0P] using hf
 have h3 : ∀ t∈flL d0P.procs[0].body,okC t∧t.id ≠ -1:=by unfold okC;decide
 have h4 : ∀ t∈flL d0P.procs[1].body,okC t∧t.id ≠ -1:=by unfold okC;decide
 rcases h2 with rfl|rfl
 ·exact ⟨by decide,by decide,by decide,by decide,h3⟩
 ·exact ⟨by decide,by decide,by decide,by decide,h4⟩
theorem x8y {H:Heap} {k n:Nat} {e sz:Nat} {es es':List AV} (hg:getH H k=some (.own e sz es)) (hn:n=es.length) (hs:SubE es es'):Frz H (.hd k 0 n) (.sl es') := .sub (.hd hg hn) (Sub.sl hs)
def w8h:List AV:=(bd1.set 0 (rwS 0 2 [120] [] x0 .ff .nils .nils .nils)).set 2 (rwS 8 9 [] [] [.int .i64 2,.int .i64 0,.str [103],.nils] .tt .nils .nils .nils)
def w8b:List AV:=bd0.set 1 (rwS 2 4 [] [112] x0 .ff (.sl [.agg ([.ff,.str []]++(X.mk 1 3 [] []).cells),.agg ([.tt,.str [118]]++x0)]) .nils .nils)
def w8m:Heap:=[(1,.obj 25 [.p (.sl [.str [103]]),.hd 25 0 2]),(25,.obj 98 (prc 21 23)),(23,.own 40 13 w8h),(21,.own 40 13 w8b)]
theorem v2w:SubE w8b [.agg d0P.procs[0].body[0].cells,.agg d0P.procs[0].body[1].cells,.agg d0P.procs[0].body[2].cells,.agg d0P.procs[0].body[3].cells]:=by repeat' (first|exact SubL.nil|exact SubE.nil|exact Sub.nils|exact Sub.ff rfl|exact Sub.tt rfl|refine SubL.cons ?_ ?_|refine SubE.cons ?_ ?_|exact Sub.refl _|refine Sub.agg ?_|refine Sub.sl ?_)
theorem v2p:SubE w8h [.agg d0P.procs[1].body[0].cells,.agg d0P.procs[1].body[1].cells,.agg d0P.procs[1].body[2].cells]:=by repeat' (first|exact SubL.nil|exact SubE.nil|exact Sub.nils|exact Sub.ff rfl|exact Sub.tt rfl|refine SubL.cons ?_ ?_|refine SubE.cons ?_ ?_|exact Sub.refl _|refine Sub.agg ?_|refine Sub.sl ?_)
theorem w6g:Frz w8m (.agg [.p (.sl [.str [103]]),.hd 25 0 2]) (.agg d0P.cells):=by
 have f0:Frz w8m (.hd 21 0 4) (eSs d0P.procs[0].body):=x8y (es:=w8b) rfl rfl v2w;have f1:Frz w8m (.hd 23 0 3) (eSs d0P.procs[1].body):=x8y (es:=w8h) rfl rfl v2p;have fp:Frz w8m (.hd 25 0 2) (.sl (d0P.procs.map fun f => .agg f.cells)):=by
  refine Frz.hdo (sz:=5) (ls:=prc 21 23) (cs:=d0P.procs[0].cells++d0P.procs[1].cells) rfl rfl (fun j l c h1 h2 => ?_) rfl (fun m x hx => ?_) (fun m x j c hx hj => ?_)
  ·match j,h1,h2 with
   | 0,h1,h2=>cases h1;cases h2;exact .p (Sub.refl _)
   | 1,h1,h2=>cases h1;cases h2;exact .p Sub.nils
   | 2,h1,h2=>cases h1;cases h2;exact .p (Sub.refl _)
   | 3,h1,h2=>cases h1;cases h2;exact f0
   | 4,h1,h2=>cases h1;cases h2;exact .p Sub.nils
   | 5,h1,h2=>cases h1;cases h2;exact .p (Sub.refl _)
   | 6,h1,h2=>cases h1;cases h2;exact .p (by repeat' (first|exact SubL.nil|exact SubE.nil|exact Sub.nils|exact Sub.ff rfl|exact Sub.tt rfl|refine SubL.cons ?_ ?_|refine SubE.cons ?_ ?_|exact Sub.refl _|refine Sub.agg ?_|refine Sub.sl ?_))
   | 7,h1,h2=>cases h1;cases h2;exact .p Sub.nils
   | 8,h1,h2=>cases h1;cases h2;exact f1
   | 9,h1,h2=>cases h1;cases h2;exact .p (Sub.refl _)
   | j+10,h1,h2=>cases h1
  ·match m,hx with
   | 0,hx=>cases hx;rfl
   | 1,hx=>cases hx;rfl
   | m+2,hx=>cases hx
  ·match m,hx with
   | 0,hx =>
     cases hx
     match j,hj with
     | 0,hj=>exact hj
     | 1,hj=>exact hj
     | 2,hj=>exact hj
     | 3,hj=>exact hj
     | 4,hj=>exact hj
     | j+5,hj=>cases hj
   | 1,hx =>
     cases hx
     match j,hj with
     | 0,hj=>exact hj
     | 1,hj=>exact hj
     | 2,hj=>exact hj
     | 3,hj=>exact hj
     | 4,hj=>exact hj
     | j+5,hj=>cases hj
   | m+2,hx=>cases hx
 refine .agg rfl fun j l c h1 h2 => ?_
 match j,h1,h2 with
 | 0,h1,h2=>cases h1;cases h2;exact .p (Sub.refl _)
 | 1,h1,h2=>cases h1;cases h2;exact fp
 | j+2,h1,h2=>cases h1
theorem DP:SpecP Tryz.prog 73 [] (fun r=>r = .agg dP.cells):=by
 have hN:=BP d0P w3c (by decide);rw [w6y] at hN;refine SpecP.body ⟨QR [(5,[0]),(4,[0,1]),(3,[0,1]),(2,[0,1]),(1,[0,1]),(0,[0])],QY [],QU []⟩ QJ Tryz.func73 rfl Tryz.call73 (by show 0<=_;decide) ?_;conv=>whnf
 repeat' (first|((first|(refine iM fun _=>?_)|refine dA ?_|refine And.intro rfl ?_|refine aD ?_|refine aR ?_|refine bP ?_|(refine iA fun _=>?_)|refine IdxK.xs (by omega) ?_|refine QZ (by omega) ?_|(refine ByteK.at (by omega) ?_)|refine wI ?_|refine IdxL.mk 0 rfl (by decide) ?_|refine IdxL.mk 1 rfl (by decide) ?_|refine IdxL.mk 2 rfl (by decide) ?_|refine StOwn.mk 0 0 _ (rwS 0 2 [120] [] x0 .ff .nils .nils .nils) rfl rfl (by decide) rfl ?_|refine StOwn.mk 2 5 _ (rwS 8 9 [] [] [.int .i64 2,.int .i64 0,.str [103],.nils] .tt .nils .nils .nils) rfl rfl (by decide) rfl ?_|refine StOwn.mk 1 3 _ (rwS 2 4 [] [112] x0 .ff (.sl [.agg ([.ff,.str []]++(X.mk 1 3 [] []).cells),.agg ([.tt,.str [118]]++x0)]) .nils .nils) rfl rfl (by decide) rfl ?_);conv=>whnf)|(apply bD<;>intro _<;>first|omega|conv=>whnf)|(apply bE<;>intro _<;>first|omega|conv=>whnf)|(apply bN<;>intro _<;>conv=>whnf)|(apply bB<;>intro _<;>conv=>whnf)|(refine CallK.heap [] 20 ArgsH.nil BlksH.nil w1m rfl rfl ?_;rintro l' H' ⟨rfl,rfl⟩;conv=>whnf))
 refine x7g [(1,.obj 25 [.p (.sl [.str [103]]),.hd 25 0 2]),(25,.obj 98 (prc 21 23)),(23,.own 40 13 w8h),(21,.own 40 13 w8b)] [(0,.obj 25 [.p .nils,.p .nils])] [(0,.ptr 0 0)] rfl (avs:=[.agg d0P.cells]) (.cons w6g .nil) (fun i=>by
  cases i with
  | zero=>exact .inl rfl
  | succ i=>exact .inr rfl) ?_
 refine CallK.pure hN (.cons (Sub.refl _) .nil) ?_;rintro _ rfl;conv=>whnf
 repeat' (first|((first|(refine iM fun _=>?_)|refine dA ?_|refine And.intro rfl ?_|refine aD ?_|refine aR ?_|refine bP ?_|(refine iA fun _=>?_)|refine IdxK.xs (by omega) ?_|refine QZ (by omega) ?_|(refine ByteK.at (by omega) ?_)|refine wI ?_);conv=>whnf)|(apply bD<;>intro _<;>first|omega|conv=>whnf)|(apply bE<;>intro _<;>first|omega|conv=>whnf)|(apply bN<;>intro _<;>conv=>whnf)|(apply bB<;>intro _<;>conv=>whnf))
 all_goals first
  | exact ⟨_,.p (Sub.refl _),rfl⟩
  | exact RetK.p rfl
  | trace_state
instance:DecidableRel ltT:=fun a b=>inferInstanceAs (Decidable (Op.bytesLess a b=true))
def w9e (m l:List Str):Bool:=decide (m.Pairwise ltT)&&m.all (fun s=>inS l s)&&l.all (fun s=>inS m s)
theorem w5g {m l:List Str} (h:w9e m l=true):XA l=m:=by
 unfold w9e at h;simp only [Bool.and_eq_true,decide_eq_true_eq,List.all_eq_true] at h;exact (x9y h.1.1 fun s=>⟨fun hs=>YG.1 (h.1.2 s hs),fun hs=>YG.1 (h.2 s hs)⟩).symm
def w4g:List (List Str)->List (List Str)->Bool
 | [],[]=>true
 | m::ms,l::ls=>w9e m l&&w4g ms ls
 | _,_=>false
theorem q3b : ∀ {ms ls:List (List Str)},w4g ms ls=true->ls.map XA=ms
 | [],[],_=>rfl
 | [],_::_,h=>by cases h
 | _::_,[],h=>by cases h
 | m::ms,l::ls,h=>by
   rw [w4g,Bool.and_eq_true] at h;rw [List.map_cons,w5g h.1,q3b h.2]
theorem q3f {p:Pg} {O D:List (List Str)} (h:w4g D ((sheetOf p).l.map fun it=>FR (bkO p O) it.s)=true):dfB p O=D:=by
 have h1:=q3b h;rw [List.map_map] at h1;exact h1
theorem q9w {p:Pg} {I U:List (List Str)} (h:w4g U ((sheetOf p).l.map fun it=>DH (bkI p I) it.s)=true):usB p I=U:=by
 have h1:=q3b h;rw [List.map_map] at h1;exact h1
def v1t (lv:List Bool) (p:Pg) (i:Nat) (f:Pr) (D:List (List Str)):List Str:=(itsOf p i f).flatMap fun it=>bif lv.getD (ixI p i f it.s.id).toNat false then (BC D it.s.id).filter (outB p f) else []
def v1s (prs:List (Int×Int)) (p:Pg) (i:Nat) (f:Pr) (D U:List (List Str)) (o:List Str) (x:Str):Bool:=(HI 0 (ZE (QA (cntL f.body+2) (prs.filter fun t=>FK p i f D x t.1)).1 [0])).any (hitN p i f U o x)
theorem q8i {p:Pg} {D O:List (List Str)} {lv0 lv1:List Bool} {f0 f1:Pr} (hp:p.procs=[f0,f1]) (h0:(QX p 0 f0).live=lv0) (h1:(QX p 1 f1).live=lv1) (h:w4g O [v1t lv0 p 0 f0 D,v1t lv1 p 1 f1 D]=true):otB p D=O:=by
 rw [<- q3b h,<- h0,<- h1];unfold otB;have e0:prA p 0=f0:=NP (by rw [hp];rfl);have e1:prA p 1=f1:=NP (by rw [hp];rfl);rw [hp];show [otA p D 0,otA p D 1]=_;unfold otA;rw [e0,e1];rfl
theorem x7y {p:Pg} {D U O I:List (List Str)} {w8n w8p:List (Int×Int)} {f0 f1:Pr} (hp:p.procs=[f0,f1]) (h0:YO (QX p 0 f0) f0=w8n) (h1:YO (QX p 1 f1) f1=w8p)
  (h:w4g I [(p.globals++[tapeS]).filter (v1s w8n p 0 f0 D U (O.getD 0 [])),(p.globals++[tapeS]).filter (v1s w8p p 1 f1 D U (O.getD 1 []))]=true):niB p D U O=I:=by
 rw [<- q3b h,<- h0,<- h1];unfold niB;have e0:prA p 0=f0:=NP (by rw [hp];rfl);have e1:prA p 1=f1:=NP (by rw [hp];rfl);rw [hp];show [niA p D U O 0,niA p D U O 1]=_;unfold niA x9d;rw [e0,e1];rfl
def x0n:Str:=[103]
def vS:Str:=[118]
def yS:Str:=[121]
def xS:Str:=[120]
theorem v0a:HV (QX someP 0 f0) f0=[⟨0,1,1⟩,⟨1,2,1⟩,⟨2,3,1⟩,⟨3,4,1⟩,⟨4,-1,1⟩]:=by
 unfold HV VU;rw [w7h,w7q];exact DW (by unfold okSt;decide) (by decide) (by decide) (by decide)
theorem w9y:YO (QX someP 0 f0) f0=[(0,1),(1,2),(2,3),(3,4),(4,5)]:=by
 unfold YO;rw [v0a]
 kernel_rfl
theorem w9g:YO (QX someP 1 f1) f1=[(0,1),(1,2),(2,3),(2,4),(3,5),(4,5)]:=by
 unfold YO;rw [w8o]
 kernel_rfl
theorem v1h:(QX someP 0 f0).live=[true,true,true,true,true,true]:=by
 unfold QX;simp only [w7l]
 kernel_rfl
theorem v1b:(QX someP 1 f1).live=[true,true,true,true,true,true]:=by
 unfold QX;simp only [w6n]
 kernel_rfl
def sO:List (List Str):=[[x0n],[yS]]
def sD0:List (List Str):=[[vS],[x0n],[],[],[yS],[],[],[retS]]
def sD:List (List Str):=[[vS],[x0n,vS],[],[],[yS],[],[],[retS]]
def sU:List (List Str):=[[],[vS],[vS],[x0n],[xS,yS],[yS],[],[yS]]
theorem some_book:BookR someP ⟨sheetOf someP,wysB someP,sD,sU,[[],[]],sO⟩:=by
 have d0:dfB someP [[],[]]=sD0:=q3f (by kernel_rfl);have o1:otB someP sD0=sO:=q8i (f0:=f0) (f1:=f1) rfl v1h v1b (by kernel_rfl);have d1:dfB someP sO=sD:=q3f (by kernel_rfl);have o2:otB someP sD=sO:=q8i (f0:=f0) (f1:=f1) rfl v1h v1b (by kernel_rfl);have u0:usB someP [[],[]]=sU:=q9w (by kernel_rfl);have i1:niB someP sD sU sO=[[],[]]:=x7y (f0:=f0) (f1:=f1) rfl w9y w9g (by kernel_rfl);refine ⟨rfl,rfl,⟨1,?_⟩,?_,d1.symm,⟨0,rfl⟩,?_,u0.symm⟩
 ·show sO=otB someP (dfB someP [[],[]]);rw [d0,o1]
 ·show otB someP (dfB someP sO)=sO;rw [d1,o2]
 ·show niB someP sD (usB someP [[],[]]) sO=[[],[]];rw [u0,i1]
def g0:Pr:=dP.procs[0]'(by decide)
def g1:Pr:=dP.procs[1]'(by decide)
theorem w9c:Fit dP:=by unfold Fit;decide
theorem v1u:XB dP=true:=by kernel_rfl
theorem w2z:WU (QG dP 0 g0)=[⟨0,1,1⟩,⟨1,2,1⟩,⟨2,3,1⟩,⟨3,4,1⟩,⟨4,-1,1⟩]:=by
 have h1:QG dP 0 g0=[⟨0,1,1⟩,⟨1,2,1⟩,⟨2,3,1⟩,⟨3,4,1⟩,⟨4,-1,1⟩]:=by kernel_rfl
 rw [h1];exact DW (by unfold okSt;decide) (by decide) (by decide) (by decide)
theorem w2g:WU (QG dP 1 g1)=[⟨0,5,1⟩,⟨5,6,1⟩,⟨6,7,1⟩,⟨6,8,1⟩,⟨7,-1,1⟩,⟨8,-1,1⟩]:=by
 have h1:QG dP 1 g1=[⟨0,5,1⟩,⟨5,6,1⟩,⟨6,7,1⟩,⟨6,8,1⟩,⟨7,-1,1⟩,⟨8,-1,1⟩]:=by kernel_rfl
 rw [h1];exact DW (by unfold okSt;decide) (by decide) (by decide) (by decide)
theorem w1c:(QX dP 0 g0).real=[⟨0,1,1⟩,⟨1,2,1⟩,⟨2,3,1⟩,⟨3,4,1⟩,⟨4,-1,1⟩]:=w2z
theorem w3v:(QX dP 1 g1).real=[⟨0,5,1⟩,⟨5,6,1⟩,⟨6,7,1⟩,⟨6,8,1⟩,⟨7,-1,1⟩,⟨8,-1,1⟩]:=w2g
theorem w6q:prsW (QX dP 0 g0) g0=[(0,1),(1,2),(2,3),(3,4),(4,5)]:=by
 unfold prsW;rw [w1c]
 kernel_rfl
theorem w6z:prsW (QX dP 1 g1) g1=[(0,1),(1,2),(2,3),(2,4),(3,5),(4,5)]:=by
 unfold prsW;rw [w3v]
 kernel_rfl
theorem w3e:trapsW (QX dP 0 g0) g0=[]:=by
 unfold trapsW WV;rw [w6q]
 kernel_rfl
theorem w3r:trapsW (QX dP 1 g1) g1=[]:=by
 unfold trapsW WV;rw [w6z]
 kernel_rfl
theorem w7s:HV (QX dP 0 g0) g0=[⟨0,1,1⟩,⟨1,2,1⟩,⟨2,3,1⟩,⟨3,4,1⟩,⟨4,-1,1⟩]:=by
 unfold HV VU;rw [w3e,w1c];exact DW (by unfold okSt;decide) (by decide) (by decide) (by decide)
theorem w7w:YO (QX dP 0 g0) g0=[(0,1),(1,2),(2,3),(3,4),(4,5)]:=by
 unfold YO;rw [w7s]
 kernel_rfl
theorem w7b:HV (QX dP 1 g1) g1=[⟨0,5,1⟩,⟨5,6,1⟩,⟨6,7,1⟩,⟨6,8,1⟩,⟨7,-1,1⟩,⟨8,-1,1⟩]:=by
 unfold HV VU;rw [w3r,w3v];exact DW (by unfold okSt;decide) (by decide) (by decide) (by decide)
theorem w7y:YO (QX dP 1 g1) g1=[(0,1),(1,2),(2,3),(2,4),(3,5),(4,5)]:=by
 unfold YO;rw [w7b]
 kernel_rfl
theorem v1l:(QX dP 0 g0).live=[true,true,true,true,true,true]:=by
 unfold QX;simp only [w2z]
 kernel_rfl
theorem v1k:(QX dP 1 g1).live=[true,true,true,true,true,true]:=by
 unfold QX;simp only [w2g]
 kernel_rfl
def tO1:List (List Str):=[[],[tapeS]]
def tO:List (List Str):=[[tapeS],[tapeS]]
def tD0:List (List Str):=[[vS],[],[],[],[tapeS,xS],[],[],[retS]]
def tD:List (List Str):=[[vS],[tapeS],[],[],[tapeS,xS],[],[],[retS]]
def tI1:List (List Str):=[[x0n],[tapeS,x0n]]
def tI:List (List Str):=[[tapeS,x0n],[tapeS,x0n]]
def tU0:List (List Str):=[[],[vS],[vS],[x0n],[tapeS],[yS],[],[x0n]]
def tU:List (List Str):=[[],[tapeS,x0n,vS],[vS],[x0n],[tapeS],[yS],[],[x0n]]
theorem d_book:BookR dP ⟨sheetOf dP,wysB dP,tD,tU,tI,tO⟩:=by
 have d0:dfB dP [[],[]]=tD0:=q3f (by kernel_rfl);have o1:otB dP tD0=tO1:=q8i (f0:=g0) (f1:=g1) rfl v1l v1k (by kernel_rfl);have d1:dfB dP tO1=tD:=q3f (by kernel_rfl);have o2:otB dP tD=tO:=q8i (f0:=g0) (f1:=g1) rfl v1l v1k (by kernel_rfl);have d2:dfB dP tO=tD:=q3f (by kernel_rfl);have u0:usB dP [[],[]]=tU0:=q9w (by kernel_rfl);have i1:niB dP tD tU0 tO=tI1:=x7y (f0:=g0) (f1:=g1) rfl w7w w7y (by kernel_rfl);have u1:usB dP tI1=tU:=q9w (by kernel_rfl);have i2:niB dP tD tU tO=tI:=x7y (f0:=g0) (f1:=g1) rfl w7w w7y (by kernel_rfl);have u2:usB dP tI=tU:=q9w (by kernel_rfl);refine ⟨rfl,rfl,⟨2,?_⟩,?_,d2.symm,⟨2,?_⟩,?_,u2.symm⟩
 ·show tO=otB dP (dfB dP (otB dP (dfB dP [[],[]])));rw [d0,o1,d1,o2]
 ·show otB dP (dfB dP tO)=tO;rw [d2,o2]
 ·show tI=niB dP tD (usB dP (niB dP tD (usB dP [[],[]]) tO)) tO;rw [u0,i1,u1,i2]
 ·show niB dP tD (usB dP tI) tO=tI;rw [u2,i2]
theorem w9j:DB someP 2=[x0n,vS]:=by
 unfold DB;rw [if_pos ⟨x0y,by decide,by rw [show (sheetOf someP).l.length=8 by kernel_rfl];decide⟩,<- some_book.eq];rfl
theorem v0i:DF someP 5=[xS,yS]:=by
 unfold DF;rw [if_pos ⟨x0y,by decide,by rw [show (sheetOf someP).l.length=8 by kernel_rfl];decide⟩,<- some_book.eq];rfl
theorem w9x:DK someP [112]=[yS]:=by
 have e:MJ someP [112]=1:=by kernel_rfl
 unfold DK;rw [e,if_pos ⟨x0y,by decide⟩,<- some_book.eq];rfl
theorem v0z:x5w dP [112]=[tapeS,x0n]:=by
 have e:MJ dP [112]=1:=by kernel_rfl
 unfold x5w;rw [e,if_pos ⟨v1u,by decide⟩,<- d_book.eq];rfl
theorem XE:SpecP Tryz.prog 15 [] (fun r=>r = .tt):=by
 have h1:=LW someP q9m 2;rw [w9j] at h1;have h2:=q0x someP q9m 5;rw [v0i] at h2;have h3:=LF someP q9m [112];rw [w9x] at h3;have h4:=q2r dP w9c [112];rw [v0z] at h4;have q1:=QN [x0n,vS] [x0n,vS];have q2:=QN [xS,yS] [xS,yS];have q3:=QN [yS] [yS];have q4:=QN [tapeS,x0n] [tapeS,x0n];simp only [decide_true] at q1 q2 q3 q4;refine sB GD Tryz.func15 rfl Tryz.call15 ?_;conv=>whnf
 repeat' (first|((first|(refine iM fun _=>?_)|refine dA ?_|refine And.intro rfl ?_|refine aD ?_|refine aR ?_|refine bP ?_|(refine iA fun _=>?_)|refine IdxK.xs (by omega) ?_|refine QZ (by omega) ?_|(refine ByteK.at (by omega) ?_)|refine wI ?_|refine cP LC ?_|refine cP DP ?_|refine cP h1 ?_|refine cP h2 ?_|refine cP h3 ?_|refine cP h4 ?_|refine KN rfl rfl ?_|refine cP q1 ?_|refine cP q2 ?_|refine cP q3 ?_|refine cP q4 ?_);conv=>whnf)|(apply bD<;>intro _<;>first|omega|conv=>whnf)|(apply bE<;>intro _<;>first|omega|conv=>whnf)|(apply bN<;>intro _<;>conv=>whnf)|(apply bB<;>intro _<;>conv=>whnf))
 all_goals first
  | exact absurd (show true=false by assumption) (by decide)
  | exact ⟨_,.p (x1q rfl),rfl⟩
  | exact RetK.tt rfl
  | exact ⟨_,.p (Sub.refl _),rfl⟩
  | trace_state
theorem z7x {p:Pg} {m:Int} (h:x3b p m=true):XB p=true:=by
 unfold x3b at h;rw [Bool.and_eq_true] at h;exact h.1
theorem BB (p:Pg) (hf:Fit p) (most:Int):SpecP Tryz.prog 31 [.agg p.cells,.int .i64 most] (fun r=>r = .bool (x3b p most)):=by
 refine sB FU Tryz.func31 rfl Tryz.call31 ?_;conv=>whnf
 have hC:=x3x p hf;unfold x3b;cases hc:XB p with
 | false =>
   rw [hc] at hC;repeat' (first|((first|(refine iM fun _=>?_)|refine dA ?_|refine And.intro rfl ?_|refine aD ?_|refine aR ?_|refine bP ?_|(refine iA fun _=>?_)|refine IdxK.xs (by omega) ?_|refine QZ (by omega) ?_|(refine ByteK.at (by omega) ?_)|refine wI ?_|refine cP hC ?_);conv=>whnf)|(apply bD<;>intro _<;>first|omega|conv=>whnf)|(apply bE<;>intro _<;>first|omega|conv=>whnf)|(apply bN<;>intro _<;>conv=>whnf)|(apply bB<;>intro _<;>conv=>whnf))
   all_goals first
    | contradiction
    | exact RetK.ff rfl
 | true =>
   rw [hc] at hC;have hcn:=(ZP hc).2.2;have hT:=z0m p (by omega);repeat' (first|((first|(refine iM fun _=>?_)|refine dA ?_|refine And.intro rfl ?_|refine aD ?_|refine aR ?_|refine bP ?_|(refine iA fun _=>?_)|refine IdxK.xs (by omega) ?_|refine QZ (by omega) ?_|(refine ByteK.at (by omega) ?_)|refine wI ?_|refine cP hC ?_|refine cP hT ?_);conv=>whnf)|(apply bD<;>intro _<;>first|omega|conv=>whnf)|(apply bE<;>intro _<;>first|omega|conv=>whnf)|(apply bN<;>intro _<;>conv=>whnf)|(apply bB<;>intro _<;>conv=>whnf))
   all_goals first
    | contradiction
    | exact RetK.bool rfl
theorem w6e : ∀ l:List Arg,(l.flatMap usA).length<=GW l
 | []=>by simp [GW]
 | x::r=>by
   have h1:=w6e r;have h2:=q2w x.x;rw [List.flatMap_cons,length_append];have h3:(usA x).length<=1+(XD x.x).length:=by
    unfold usA;rw [length_append];split<;>simp
   simp only [GW];omega
theorem w8w {p:Pg} {I:List (List Str)} (hf:Fit p) (hc:XB p=true) (h:OkI p I) {k:Nat} (hk:k<(sheetOf p).l.length):(DH (bkI p I) (sheetOf p).l[k].s).length<=30000:=by
 have h1:=q7z hf hk;generalize (sheetOf p).l[k].s=t at *
 have h2:=q2w t.x;have h3:=w6e t.args;have h4:(inAt (bkI p I) t).length<=25:=h.len25 hc (caI (bkI p I).s.p t).toNat;have h5:wX t.x+GW t.args<=20000:=by
  cases t;simp only [wS,S.x,S.args] at h1 ⊢;omega
 have h6:(x6v t).length<=(XD t.x).length+1:=by
  unfold x6v;rw [length_append];split<;>simp
 unfold DH;split
 ·simp only [length_append];omega
 ·omega
theorem z8e {p:Pg} (hf:Fit p) (hc:XB p=true) (n:Str) (id:Int):(DK p n).length<=30000∧(x5w p n).length<=30000∧(DB p id).length<=30000∧(DF p id).length<=30000:=by
 have k:=x0j hc;have b:=KO hc;refine ⟨?_,?_,?_,?_⟩
 ·unfold DK;split
  ·have:=k.1.len25 hc (MJ p n).toNat;omega
  ·exact zero_le _
 ·unfold x5w;split
  ·have:=k.2.len25 hc (MJ p n).toNat;omega
  ·exact zero_le _
 ·unfold DB;split
  ·rename_i h;have hl:=q9z p (QF p).outs;rw [b.defs,List.getD_eq_getElem?_getD,List.getElem?_eq_getElem (by omega)];have:=z3o hc k.1 _ (List.getElem_mem (l:=dfB p (QF p).outs) (n:=(id-1).toNat) (by omega));simp only [Option.getD_some];omega
  ·exact zero_le _
 ·unfold DF;split
  ·rename_i h;have hk:(id-1).toNat<(sheetOf p).l.length:=by omega
   rw [b.uses];unfold usB;rw [List.getD_eq_getElem?_getD,List.getElem?_map,List.getElem?_eq_getElem hk];have h1:=HP (DH (bkI p (QF p).ins) (sheetOf p).l[(id-1).toNat].s);have h2:=w8w hf hc k.2 hk;exact Nat.le_trans h1 h2
  ·exact zero_le _
theorem ZZ (l:List Str) (a b:Str) (hl:l.length<=1000000):SpecP Tryz.prog 34 [eStrs l,.str a,.str b] (fun r=>r=eStrs (XA (l.map (QQ a b)))):=by
 refine sB GL Tryz.func34 rfl Tryz.call34 ?_;conv=>whnf
 have h1:=XW l a b hl;have h2:=BF (l.map (QQ a b)) (by rw [length_map];omega);repeat' (first|((first|(refine iM fun _=>?_)|refine dA ?_|refine And.intro rfl ?_|refine aD ?_|refine aR ?_|refine bP ?_|(refine iA fun _=>?_)|refine IdxK.xs (by omega) ?_|refine QZ (by omega) ?_|(refine ByteK.at (by omega) ?_)|refine wI ?_|refine cP h1 ?_|refine cP h2 ?_);conv=>whnf)|(apply bD<;>intro _<;>first|omega|conv=>whnf)|(apply bE<;>intro _<;>first|omega|conv=>whnf)|(apply bN<;>intro _<;>conv=>whnf)|(apply bB<;>intro _<;>conv=>whnf))
 all_goals exact RetK.p rfl
theorem KI (p:Pg) (a b:Str) (n id:Int):SpecP Tryz.prog 4 [.agg p.cells,.str a,.str b,.int .i64 n,.int .i64 id] (fun r=>r = .tt):=by
 refine sB JF Tryz.func4 rfl Tryz.call4 ?_;conv=>whnf
 cases hfb:w2s p with
 | false =>
   have hno : ¬gPg p<=20000:=by unfold w2s at hfb;simpa using hfb
   repeat' (first|((first|(refine iM fun _=>?_)|refine cP (WG _) ?_|refine dA ?_|refine And.intro rfl ?_|refine aD ?_|refine aR ?_|refine bP ?_|(refine iA fun _=>?_)|refine IdxK.xs (by omega) ?_|refine QZ (by omega) ?_|(refine ByteK.at (by omega) ?_)|refine wI ?_|refine cP XE ?_);conv=>whnf)|(apply bD<;>intro _<;>first|omega|conv=>whnf)|(apply bE<;>intro _<;>first|omega|conv=>whnf)|(apply bN<;>intro _<;>conv=>whnf)|(apply bB<;>intro _<;>conv=>whnf))
   all_goals first
    | exact ⟨_,.p (Sub.refl _),rfl⟩
    | (exfalso;simp_all;done)
 | true =>
   have hf:Fit p:=w7i hfb;have hfit:gPg p<=20000:=by unfold w2s at hfb;simpa using hfb
   have hC:=BB p hf 60;cases hs:x3b p 60 with
   | false =>
     rw [hs] at hC;repeat' (first|((first|(refine iM fun _=>?_)|refine cP (WG _) ?_|refine dA ?_|refine And.intro rfl ?_|refine aD ?_|refine aR ?_|refine bP ?_|(refine iA fun _=>?_)|refine IdxK.xs (by omega) ?_|refine QZ (by omega) ?_|(refine ByteK.at (by omega) ?_)|refine wI ?_|refine cP XE ?_|refine cP hC ?_);conv=>whnf)|(apply bD<;>intro _<;>first|omega|conv=>whnf)|(apply bE<;>intro _<;>first|omega|conv=>whnf)|(apply bN<;>intro _<;>conv=>whnf)|(apply bB<;>intro _<;>conv=>whnf))
     all_goals first
      | contradiction
      | exact ⟨_,.p (Sub.refl _),rfl⟩
   | true =>
     rw [hs] at hC;have hc:=z7x hs;have hMA:=UD (.mk 2 0 a []);have hMB:=UD (.mk 2 0 b []);rw [z9u] at hMA hMB;have subX : ∀ s:Str,Sub (.agg [.int .i64 2,.int .i64 0,.str s,.nils]) (.agg (X.mk 2 0 s []).cells):=fun s=>Sub.agg (.cons (Sub.refl _) (.cons (Sub.refl _) (.cons (Sub.refl _) (.cons Sub.nils .nil))));by_cases hnames:isName a=true∧isName b=true∧a≠mainS∧b≠mainS
     ·obtain ⟨hna,hnb,hma,hmb⟩:=hnames;rw [hna] at hMA;rw [hnb] at hMB;have R:Ren a b:=⟨hna,hnb,hma,hmb⟩;have hf2:Fit (QS a b p):=w6i hf;obtain ⟨o1,o2,o3⟩:=w4n hf hc;have hS:=ME a b p o1 o2 o3;have hc2:XB (QS a b p)=true:=by rw [q9j R,hc]
      have hP1:=YA p n (x3s hc);have hP2:=YA (QS a b p) n (x3s hc2);rw [z4u R] at hP2;obtain ⟨l1,l2,l3,l4⟩:=z8e hf hc (ZK p n) id;obtain ⟨e1,e2,e3,e4⟩:=z9o R hc (ZK p n) id;have hO1:=LF p hf (ZK p n);have hO2:=LF (QS a b p) hf2 (QQ a b (ZK p n));have hI1:=q2r p hf (ZK p n);have hI2:=q2r (QS a b p) hf2 (QQ a b (ZK p n));have hD1:=LW p hf id;have hD2:=LW (QS a b p) hf2 id;have hU1:=q0x p hf id;have hU2:=q0x (QS a b p) hf2 id;rw [e1] at hO2;rw [e2] at hI2;rw [e3] at hD2;rw [e4] at hU2;have w1:=ZZ _ a b (Nat.le_trans l1 (by decide));have w2:=ZZ _ a b (Nat.le_trans l2 (by decide));have w3:=ZZ _ a b (Nat.le_trans l3 (by decide));have w4:=ZZ _ a b (Nat.le_trans l4 (by decide));have q1:=QN (XA ((DK p (ZK p n)).map (QQ a b))) (XA ((DK p (ZK p n)).map (QQ a b)));have q2:=QN (XA ((x5w p (ZK p n)).map (QQ a b))) (XA ((x5w p (ZK p n)).map (QQ a b)));have q3:=QN (XA ((DB p id).map (QQ a b))) (XA ((DB p id).map (QQ a b)));have q4:=QN (XA ((DF p id).map (QQ a b))) (XA ((DF p id).map (QQ a b)));rw [decide_eq_true rfl] at q1 q2 q3 q4;have hma':(a==([109,97,105,110]:Str))=false:=beq_eq_false_iff_ne.2 hma;have hmb':(b==([109,97,105,110]:Str))=false:=beq_eq_false_iff_ne.2 hmb;clear e1 e2 e3 e4 l1 l2 l3 l4;generalize XA ((DK p (ZK p n)).map (QQ a b))=so at *
      generalize XA ((x5w p (ZK p n)).map (QQ a b))=si at *
      generalize XA ((DB p id).map (QQ a b))=sd at *
      generalize XA ((DF p id).map (QQ a b))=su at *
      generalize QQ a b (ZK p n)=pn2 at *
      generalize ZK p n=pn1 at *
      generalize DK p pn1=lo at *
      generalize x5w p pn1=li at *
      generalize DB p id=ld at *
      generalize DF p id=lu at *
      generalize QS a b p=q at *
      repeat' (first|((first|(refine iM fun _=>?_)|refine cP (WG _) ?_|refine dA ?_|refine And.intro rfl ?_|refine aD ?_|refine aR ?_|refine bP ?_|(refine iA fun _=>?_)|refine IdxK.xs (by omega) ?_|refine QZ (by omega) ?_|(refine ByteK.at (by omega) ?_)|refine wI ?_|refine cP XE ?_|refine cP hC ?_|(refine CallK.pure hMA (.cons (subX _) .nil) ?_;rintro _ rfl)|(refine CallK.pure hMB (.cons (subX _) .nil) ?_;rintro _ rfl)|refine cP hS ?_|refine cP hP1 ?_|refine cP hP2 ?_|refine cP hI2 ?_|refine cP hI1 ?_|refine cP hO2 ?_|refine cP hO1 ?_|refine cP hD2 ?_|refine cP hD1 ?_|refine cP hU2 ?_|refine cP hU1 ?_|refine cP w1 ?_|refine cP w2 ?_|refine cP w3 ?_|refine cP w4 ?_|refine cP q1 ?_|refine cP q2 ?_|refine cP q3 ?_|refine cP q4 ?_);conv=>whnf)|(apply bD<;>intro _<;>first|omega|conv=>whnf)|(apply bE<;>intro _<;>first|omega|conv=>whnf)|(apply bN<;>intro _<;>conv=>whnf)|(apply bB<;>intro _<;>conv=>whnf))
      all_goals first
       | exact ⟨_,.p (Sub.refl _),rfl⟩
       | exact ⟨_,.p (x1q rfl),rfl⟩
       | exact ⟨_,.p (x1q (by simp)),rfl⟩
       | (exfalso;simp_all;done)
       | trace_state
     ·have hna:True:=trivial;repeat' (first|((first|(refine iM fun _=>?_)|refine cP (WG _) ?_|refine dA ?_|refine And.intro rfl ?_|refine aD ?_|refine aR ?_|refine bP ?_|(refine iA fun _=>?_)|refine IdxK.xs (by omega) ?_|refine QZ (by omega) ?_|(refine ByteK.at (by omega) ?_)|refine wI ?_|refine cP XE ?_|refine cP hC ?_|(refine CallK.pure hMA (.cons (subX _) .nil) ?_;rintro _ rfl)|(refine CallK.pure hMB (.cons (subX _) .nil) ?_;rintro _ rfl));conv=>whnf)|(apply bD<;>intro _<;>first|omega|conv=>whnf)|(apply bE<;>intro _<;>first|omega|conv=>whnf)|(apply bN<;>intro _<;>conv=>whnf)|(apply bB<;>intro _<;>conv=>whnf))
      all_goals first
       | exact ⟨_,.p (Sub.refl _),rfl⟩
       | (exfalso;simp_all;done)
       | (exfalso;simp_all [mainS];done)
       | trace_state
end Go.Ab
