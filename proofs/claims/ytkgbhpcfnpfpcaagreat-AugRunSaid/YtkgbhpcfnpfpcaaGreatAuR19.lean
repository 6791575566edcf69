/- run: a whole run. -/
import Derived.Test.YtkgbhpcfnpfpcaaGreatAuR12
import Derived.Test.YtkgbhpcfnpfpcaaGreatAuR16
import Derived.Test.YtkgbhpcfnpfpcaaGreatAuR18
set_option linter.unusedSimpArgs false
set_option linter.unusedVariables false
set_option maxRecDepth 100000
set_option maxHeartbeats 16000000
open List (length_map mem_cons_self)
open Nat (succ_pos zero_le)
namespace Go.Ab
open Go.Proofs
def q1l:Info:={ keep:=fun i=>QT [(27,[8,9]),(26,[2,8,10,11,12,13,126]),(25,[2,8,10,11,12,13]),(24,[2,8,10,11,12,13,117]),(20,[2,8,10,11,12,13]),(23,[2,8,10,11,12,13,111]),(22,[2,8,10,11,12,13]),(18,[2,8,10,11,12,13]),(21,[2,8,10,11,12,13,100]),(19,[2,8,10,11,12,13,90,94]),(17,[2,8,10,11,12,13,90]),(16,[2,8,10,11,12,13]),(15,[2,8,10,11,12,13]),(14,[2,8,10,11,12,13]),(13,[2,8,10,11,12,13,63]),(12,[2,8,10,11,12,13]),(11,[2,8,10,11,12,13,56]),(10,[2,8,10,11,12,13]),(9,[2,8,10,11,12]),(8,[2,8,10,11]),(7,[2,8,10,34,35]),(6,[2,8,10,34,35]),(5,[2,8,10,34,35,36]),(4,[2,8,10,34,35]),(3,[2,4,8,10]),(2,[8,9]),(1,[1,2,3,4,8,24]),(0,[1,2,3,4,8])] i,sched:=I_run_Of.sched,frz:=I_run_Of.frz }
def z6x:Code->Code
 | .seq a b=>match a with
   | .scope c=>c
   | _=>z6x b
 | .scope c=>c
 | c=>c
noncomputable def z9m:Code:=z6x (Tryz.f101.body.getD .skip)
noncomputable def x9u (l:Nat):Code:=(findLabel z9m l).getD .skip
theorem z6i {P:Program} {N:Nat} {K:Exit->St->Prop} {s:St} (h:ScopeK P tab N q1l z9m K s):ScopeK P tab N q1l z9m K s:=h
def rO:Chunk := .obj 65 [.p (.int .i64 0),.p (.int .i64 0),.p (.int .i64 0),.p .nils,.p .nils]
def rM (p:Pg) (tape watch:List Int) (v:Nat) (M:Mc):Chunk := .obj 192 [.p (.ip (sheetOf p).cells),.hd 2 0 p.globals.length,.p (QO tape),.p (QO watch),.hd 3 0 M.stack.length,.hd 4 0 v,.p (.int .i64 M.fin),.p (.int .i64 M.steps),.p (.int .i64 M.reads),.hd 5 0 M.out.length,.hd 6 0 M.trace.length]
def rH (p:Pg) (tape watch:List Int) (bs:List Nat) (vs:List Int) (M:Mc) (it:Item):Heap:=[(0,rM p tape watch vs.length M),(2,.own 193 1 (VZ bs (List.range p.globals.length))),(3,.own 246 1 (M.stack.map (fmA bs))),(4,.own 2 1 (vs.map (.int .i64))),
 (5,.own 2 1 (M.out.map (.int .i64))),(6,.own 68 2 (M.trace.map evA)),(2500,.ext (.cells 2 (ZQ bs M.mem))),(1,rO),(7,.obj 162 (it.cells.map .p))]
theorem z3e (l r:List (Nat×LV)) (i:Nat):getS l i=getS (l++r) i∨getS l i = .p .any:=by
 induction l with
 | nil=>exact .inr rfl
 | cons x l ih =>
   obtain ⟨j,v⟩:=x;show (bif j==i then v else getS l i)=(bif j==i then v else getS (l++r) i)∨(bif j==i then v else getS l i) = .p .any;cases j==i
   ·exact ih
   ·exact .inl rfl
theorem VA {N:Nat} (l r:List (Nat×LV)) {H:Heap}:Le N ⟨l++r,H⟩ ⟨l,H⟩:=x0i (z3e l r) (List.Sublist.refl _)
def x6i (p:Pg) (tape watch:List Int) (fuel gave at_:Int) (bs:List Nat) (vs:List Int) (M:Mc) (it:Item):St:=⟨[(2,.p (.int .i64 fuel)),(8,.ptr 1 0),(10,.ptr 0 0),(11,.ptr 7 0),(12,.p (.int .i64 gave)),(13,.p (.int .i64 at_))],rH p tape watch bs vs M it⟩
structure RIx where
 c:Cf
 gv:Int
 at_:Int
 bs:List Nat
 vs:List Int
 it:Item
def RIx.st (p:Pg) (tape watch:List Int) (fuel:Int) (i:RIx):St:=match i.c with
 | .next a M=>x6i p tape watch fuel i.gv a i.bs i.vs M i.it
 | .back g M=>x6i p tape watch fuel g i.at_ i.bs i.vs M i.it
 | .fin M=>x6i p tape watch fuel i.gv i.at_ i.bs i.vs M i.it
def RIx.lab (i:RIx):Nat:=match i.c with
 | .next _ _=>1
 | .back _ _=>0
 | .fin _=>2
def RIx.bok (i:RIx):Prop:=match i.c with
 | .next _ M=>i.bs.length=M.mem.length
 | .back _ M=>i.bs.length=M.mem.length
 | .fin _=>True
def Kgo (p:Pg) (tape watch:List Int) (fuel:Int) (c:Cf) (K:Exit->St->Prop):Prop := ∀ (i:RIx) (s':St),i.c=goC p tape watch fuel c->i.bok->Le Tryz.f101.ntmps s' (i.st p tape watch fuel)->K (.goto i.lab) s'
theorem q8s {p:Pg} (hc:ZB p=true) {k:Nat} {g:Pr} (hk:p.procs[k]? = some g):SpecP Tryz.prog 230 [.agg p.cells,.str g.name] (fun r=>r=QS (varsS p g)):=by
 have h1:=(YY hc).1;have h2:=(JE (QM hc).1).pr g (List.mem_of_getElem? hk);exact x7d p (QM hc).1 k g hk (fun j g' hj he=>(q6o hc hj hk he).1) (by omega) (by omega) (by omega)
theorem z9e {p:Pg} {tape watch:List Int} {M:Mc} {f:Fm} {g:Pr} {it:Item}:(doM p tape watch M f g it).2.mem.length=M.mem.length:=by
 have he : ∀ (M:Mc) v,(QG watch M it.s.id v).mem=M.mem:=fun M v=>q3a;unfold doM;split
 ·show (QG watch M it.s.id []).mem.length=_;rw [he]
 split
 ·show (QG watch M it.s.id []).mem.length=_;rw [he]
 split
 ·show (QG watch M it.s.id []).mem.length=_;rw [he]
 split
 ·split
  ·rfl
  ·show (QG watch _ it.s.id _).mem.length=_;rw [he];simp [setM]
 cases (QC M f it.s.x).2 with
 | false=>rfl
 | true =>
   rw [cond_true];split
   ·show ((QG watch M it.s.id _).mem.set _ _).length=_;rw [List.length_set,he]
   split
   ·show (QG watch M it.s.id _).mem.length=_;rw [he]
   split
   ·show (QG watch M it.s.id _).mem.length=_;rw [he]
   split
   ·show (QG watch M it.s.id _).mem.length=_;rw [he]
   ·show (QG watch M it.s.id _).mem.length=_;rw [he]
theorem q9c (p:Pg) (hc:ZB p=true) (tape watch:List Int) (htp:tape.length<=10000000) (fuel:Int) (hfu:fuel<=1000000) (gv:Int) (bs:List Nat) (vs:List Int) (it0:Item) (a:Int) (M:Mc) (hG:NI p fuel (.next a M)) (hb:bs.length=M.mem.length) (K:Exit->St->Prop) (hK:Kgo p tape watch fuel (.next a M) K) :
  W Tryz.prog tab Tryz.f101.ntmps q1l (x9u 1) K (x6i p tape watch fuel gv a bs vs M it0):=by
 obtain ⟨hGd,hs0,hs1,hat⟩:=hG;have hOk:=hGd.okM hc hb;obtain ⟨st,hst⟩:=hGd.top;have hcn:=(YY hc).2.2;have hgc:=(YY hc).1;have hll:=(QJ p).2.2.2.1;have htr:=hGd.tr;have hou:=hGd.ou;have hrd:=hGd.rd;have hr0:=hGd.r0;have hfin:=hGd.fin;have hslk:=hGd.sl;unfold Kgo at hK;simp only [goC] at hK;by_cases ha:a = -1
 ·rw [if_pos ha] at hK;conv=>whnf
  repeat' (first|((first|(refine iM fun _=>?_)|refine dA ?_|refine And.intro rfl ?_|refine aD ?_|refine aR ?_|refine bP ?_|(refine iA fun _=>?_)|refine IdxK.xs (by omega) ?_|refine QL (by omega) ?_|(refine ByteK.at (by omega) ?_)|refine wI ?_);conv=>whnf)|(apply bD<;>intro _<;>first|omega|conv=>whnf)|(apply bE<;>intro _<;>first|omega|conv=>whnf)|(apply bN<;>intro _<;>conv=>whnf)|(apply bB<;>intro _<;>conv=>whnf))
  all_goals first
   | (exfalso;omega)
   | exact hK ⟨.back 0 M,0,a,bs,vs,it0⟩ _ rfl hb (Le.of_eq rfl)
   | exact hK ⟨.back 0 M,0,a,bs,vs,it0⟩ _ rfl hb (VA (RIx.st p tape watch fuel ⟨.back 0 M,0,a,bs,vs,it0⟩).sl [_])
 rw [if_neg ha] at hK;by_cases hst2:M.steps=fuel
 ·rw [if_pos hst2] at hK;conv=>whnf
  repeat' (first|((first|(refine iM fun _=>?_)|refine dA ?_|refine And.intro rfl ?_|refine aD ?_|refine aR ?_|refine bP ?_|(refine iA fun _=>?_)|refine IdxK.xs (by omega) ?_|refine QL (by omega) ?_|(refine ByteK.at (by omega) ?_)|refine wI ?_);conv=>whnf)|(apply bD<;>intro _<;>first|omega|conv=>whnf)|(apply bE<;>intro _<;>first|omega|conv=>whnf)|(apply bN<;>intro _<;>conv=>whnf)|(apply bB<;>intro _<;>conv=>whnf))
  all_goals first
   | (exfalso;omega)
   | exact hK ⟨.fin (endM M 2),gv,a,bs,vs,it0⟩ _ rfl trivial (Le.of_eq rfl)
   | exact hK ⟨.fin (endM M 2),gv,a,bs,vs,it0⟩ _ rfl trivial (VA (RIx.st p tape watch fuel ⟨.fin (endM M 2),gv,a,bs,vs,it0⟩).sl [_])
 rw [if_neg hst2] at hK;rcases hat with h|⟨g,it,hg,h1,hit,hi,hid⟩
 ·exact absurd h ha
 rw [hit] at hK;simp only at hK;have hgl:((sheetOf p).l.map fun i=>AV.agg i.cells)[(a-1).toNat]? = some (.agg it.cells):=by rw [List.getElem?_map,hit];rfl
 have hlt:(a-1).toNat<(sheetOf p).l.length:=(List.getElem?_eq_some_iff.1 hit).1;have hG1:Good p (VY M) M.steps:=hGd.same rfl (Nat.le_refl _) hfin hr0 hrd htr hou;have hOk1:OkM p bs (VY M):=hG1.okM hc hb;have hst1:(VY M).stack=st++[ZZ (VY M)]:=hst;have hslk1:(VY M).stack.length<=101:=hslk;have htr1:(VY M).trace.length<=10000000:=by show M.trace.length<=_;omega
 have hou1:(VY M).out.length<=10000000:=by show M.out.length<=_;omega
 have hk1:p.procs[(ZZ (VY M)).proc]? = some g:=hg;have ht:=BC hi;have hi1:it∈itsOf p (ZZ (VY M)).proc g:=hi;unfold stI at hK;by_cases h4:it.s.kind=4
 ·rw [if_pos h4] at hK;obtain ⟨k1,k2,k3⟩:=x9s hc hg ht h4;have hpar:=x5p hc (MQ p it.s);have hmf:=(JE (QM hc).1).pr _ (List.mem_of_getElem? k2);have hcall:=MY p tape watch bs vs (VY M) st (ZZ (VY M)) hst1 hOk1 hslk1 htr1 it.s (by omega) (fun b hb hr=>(q6x hc hG1 hk1 ht (z8p hb hr)).1) (MQ p it.s) (prA p (MQ p it.s)) k2 k1 (q8s hc k2) (by omega) (by omega);generalize hr:JA p watch (VY M) (ZZ (VY M)) it.s (MQ p it.s) (prA p (MQ p it.s))=r at *
  obtain ⟨a',M'⟩:=r;unfold z2r at hK;simp only at hK hcall;by_cases h0:M'.fin=0
  ·rw [if_pos h0] at hK;conv=>whnf
   repeat' (first|((first|(refine iM fun _=>?_)|refine dA ?_|refine And.intro rfl ?_|refine aD ?_|refine aR ?_|refine bP ?_|(refine iA fun _=>?_)|refine IdxK.xs (by omega) ?_|refine QL (by omega) ?_|(refine ByteK.at (by omega) ?_)|refine wI ?_|(refine IdxK.at (k:=(a-1).toNat) (by omega) hgl rfl ?_));conv=>whnf)|(apply bD<;>intro _<;>first|omega|conv=>whnf)|(apply bE<;>intro _<;>first|omega|conv=>whnf)|(apply bN<;>intro _<;>conv=>whnf)|(apply bB<;>intro _<;>conv=>whnf)|(refine CallK.heap [(1000,0),(1001,2),(2001,3),(2002,4),(2003,5),(2004,6),(2500,2500)] 0 (by repeat' (first|exact ArgsH.nil|refine ArgsH.cons ?_ ?_|exact LSub.refl _|exact LSub.p Sub.nils|exact LSub.p (Sub.tt rfl)|exact LSub.p (Sub.ff rfl)|exact LSub.p (Sub.int (by omega)))) (by refine BlksH.cons (j:=0) rfl rfl ?_ ?_;exact CSub.refl _;refine BlksH.cons (j:=2) rfl rfl ?_ ?_;exact CSub.refl _;refine BlksH.cons (j:=3) rfl rfl ?_ ?_;exact CSub.refl _;refine BlksH.cons (j:=4) rfl rfl ?_ ?_;exact CSub.refl _;refine BlksH.cons (j:=5) rfl rfl ?_ ?_;exact CSub.refl _;refine BlksH.cons (j:=6) rfl rfl ?_ ?_;exact CSub.refl _;refine BlksH.cons (j:=2500) rfl rfl ?_ ?_;exact CSub.refl _;exact BlksH.nil) hcall rfl rfl ?_;rintro l' H' ⟨bs',vs',rfl,rfl,hb'⟩;conv=>whnf))
   all_goals first
    | (exfalso;omega)
    | exact hK ⟨.next a' M',gv,0,bs',vs',it⟩ _ rfl (by assumption) (Le.of_eq rfl)
    | exact hK ⟨.next a' M',gv,0,bs',vs',it⟩ _ rfl (by assumption) (VA (RIx.st p tape watch fuel ⟨.next a' M',gv,0,bs',vs',it⟩).sl [_])
  ·rw [if_neg h0] at hK;conv=>whnf
   repeat' (first|((first|(refine iM fun _=>?_)|refine dA ?_|refine And.intro rfl ?_|refine aD ?_|refine aR ?_|refine bP ?_|(refine iA fun _=>?_)|refine IdxK.xs (by omega) ?_|refine QL (by omega) ?_|(refine ByteK.at (by omega) ?_)|refine wI ?_|(refine IdxK.at (k:=(a-1).toNat) (by omega) hgl rfl ?_));conv=>whnf)|(apply bD<;>intro _<;>first|omega|conv=>whnf)|(apply bE<;>intro _<;>first|omega|conv=>whnf)|(apply bN<;>intro _<;>conv=>whnf)|(apply bB<;>intro _<;>conv=>whnf)|(refine CallK.heap [(1000,0),(1001,2),(2001,3),(2002,4),(2003,5),(2004,6),(2500,2500)] 0 (by repeat' (first|exact ArgsH.nil|refine ArgsH.cons ?_ ?_|exact LSub.refl _|exact LSub.p Sub.nils|exact LSub.p (Sub.tt rfl)|exact LSub.p (Sub.ff rfl)|exact LSub.p (Sub.int (by omega)))) (by refine BlksH.cons (j:=0) rfl rfl ?_ ?_;exact CSub.refl _;refine BlksH.cons (j:=2) rfl rfl ?_ ?_;exact CSub.refl _;refine BlksH.cons (j:=3) rfl rfl ?_ ?_;exact CSub.refl _;refine BlksH.cons (j:=4) rfl rfl ?_ ?_;exact CSub.refl _;refine BlksH.cons (j:=5) rfl rfl ?_ ?_;exact CSub.refl _;refine BlksH.cons (j:=6) rfl rfl ?_ ?_;exact CSub.refl _;refine BlksH.cons (j:=2500) rfl rfl ?_ ?_;exact CSub.refl _;exact BlksH.nil) hcall rfl rfl ?_;rintro l' H' ⟨bs',vs',rfl,rfl,hb'⟩;conv=>whnf))
   all_goals first
    | (exfalso;omega)
    | exact hK ⟨.fin M',gv,a',bs',vs',it⟩ _ rfl trivial (Le.of_eq rfl)
    | exact hK ⟨.fin M',gv,a',bs',vs',it⟩ _ rfl trivial (VA (RIx.st p tape watch fuel ⟨.fin M',gv,a',bs',vs',it⟩).sl [_])
 rw [if_neg h4] at hK;by_cases h9:it.s.kind=9
 ·rw [if_pos h9] at hK;have hret:=PY p tape watch bs vs (VY M) st (ZZ (VY M)) hst1 hOk1 htr1 it.s;have hml:(x4e watch (VY M) (ZZ (VY M)) it.s).2.fin=0->(x4e watch (VY M) (ZZ (VY M)) it.s).2.mem=(VY M).mem:=fun _=>by
   unfold x4e;cases it.s.has with
   | false=>exact q3a
   | true=>cases hw:(QC (VY M) (ZZ (VY M)) it.s.x).2 with
     | false=>rfl
     | true=>exact q3a
  generalize hr:x4e watch (VY M) (ZZ (VY M)) it.s=r at *
  obtain ⟨gv',M'⟩:=r;unfold x5j at hK;simp only at hK hret hml;by_cases h0:M'.fin=0
  ·rw [if_pos h0] at hK;have hb':bs.length=M'.mem.length:=by rw [hml h0];exact hb
   conv=>whnf
   repeat' (first|((first|(refine iM fun _=>?_)|refine dA ?_|refine And.intro rfl ?_|refine aD ?_|refine aR ?_|refine bP ?_|(refine iA fun _=>?_)|refine IdxK.xs (by omega) ?_|refine QL (by omega) ?_|(refine ByteK.at (by omega) ?_)|refine wI ?_|(refine IdxK.at (k:=(a-1).toNat) (by omega) hgl rfl ?_));conv=>whnf)|(apply bD<;>intro _<;>first|omega|conv=>whnf)|(apply bE<;>intro _<;>first|omega|conv=>whnf)|(apply bN<;>intro _<;>conv=>whnf)|(apply bB<;>intro _<;>conv=>whnf)|(refine CallK.heap [(1000,0),(1001,2),(2001,3),(2002,4),(2003,5),(2004,6),(2500,2500)] 0 (by repeat' (first|exact ArgsH.nil|refine ArgsH.cons ?_ ?_|exact LSub.refl _|exact LSub.p Sub.nils|exact LSub.p (Sub.tt rfl)|exact LSub.p (Sub.ff rfl)|exact LSub.p (Sub.int (by omega)))) (by refine BlksH.cons (j:=0) rfl rfl ?_ ?_;exact CSub.refl _;refine BlksH.cons (j:=2) rfl rfl ?_ ?_;exact CSub.refl _;refine BlksH.cons (j:=3) rfl rfl ?_ ?_;exact CSub.refl _;refine BlksH.cons (j:=4) rfl rfl ?_ ?_;exact CSub.refl _;refine BlksH.cons (j:=5) rfl rfl ?_ ?_;exact CSub.refl _;refine BlksH.cons (j:=6) rfl rfl ?_ ?_;exact CSub.refl _;refine BlksH.cons (j:=2500) rfl rfl ?_ ?_;exact CSub.refl _;exact BlksH.nil) hret rfl rfl ?_;rintro l' H' ⟨vs',rfl,rfl⟩;conv=>whnf))
   all_goals first
    | (exfalso;omega)
    | exact hK ⟨.back gv' M',0,a,bs,vs',it⟩ _ rfl hb' (Le.of_eq rfl)
    | exact hK ⟨.back gv' M',0,a,bs,vs',it⟩ _ rfl hb' (VA (RIx.st p tape watch fuel ⟨.back gv' M',0,a,bs,vs',it⟩).sl [_])
  ·rw [if_neg h0] at hK;conv=>whnf
   repeat' (first|((first|(refine iM fun _=>?_)|refine dA ?_|refine And.intro rfl ?_|refine aD ?_|refine aR ?_|refine bP ?_|(refine iA fun _=>?_)|refine IdxK.xs (by omega) ?_|refine QL (by omega) ?_|(refine ByteK.at (by omega) ?_)|refine wI ?_|(refine IdxK.at (k:=(a-1).toNat) (by omega) hgl rfl ?_));conv=>whnf)|(apply bD<;>intro _<;>first|omega|conv=>whnf)|(apply bE<;>intro _<;>first|omega|conv=>whnf)|(apply bN<;>intro _<;>conv=>whnf)|(apply bB<;>intro _<;>conv=>whnf)|(refine CallK.heap [(1000,0),(1001,2),(2001,3),(2002,4),(2003,5),(2004,6),(2500,2500)] 0 (by repeat' (first|exact ArgsH.nil|refine ArgsH.cons ?_ ?_|exact LSub.refl _|exact LSub.p Sub.nils|exact LSub.p (Sub.tt rfl)|exact LSub.p (Sub.ff rfl)|exact LSub.p (Sub.int (by omega)))) (by refine BlksH.cons (j:=0) rfl rfl ?_ ?_;exact CSub.refl _;refine BlksH.cons (j:=2) rfl rfl ?_ ?_;exact CSub.refl _;refine BlksH.cons (j:=3) rfl rfl ?_ ?_;exact CSub.refl _;refine BlksH.cons (j:=4) rfl rfl ?_ ?_;exact CSub.refl _;refine BlksH.cons (j:=5) rfl rfl ?_ ?_;exact CSub.refl _;refine BlksH.cons (j:=6) rfl rfl ?_ ?_;exact CSub.refl _;refine BlksH.cons (j:=2500) rfl rfl ?_ ?_;exact CSub.refl _;exact BlksH.nil) hret rfl rfl ?_;rintro l' H' ⟨vs',rfl,rfl⟩;conv=>whnf))
   all_goals first
    | (exfalso;omega)
    | exact hK ⟨.fin M',gv',a,bs,vs',it⟩ _ rfl trivial (Le.of_eq rfl)
    | exact hK ⟨.fin M',gv',a,bs,vs',it⟩ _ rfl trivial (VA (RIx.st p tape watch fuel ⟨.fin M',gv',a,bs,vs',it⟩).sl [_])
 rw [if_neg h9] at hK;have hpA:=q3c hk1;rw [hpA] at hK;have hDo:DoOk p (ZZ (VY M)) g it:=⟨fun h7=>by
   have hl:=(PB hc hk1).1 it hi1 h7;exact ⟨hl.1,by omega,_,List.getElem?_eq_getElem (by omega)⟩,⟨_,YQ _ _ _ _ _ _ it hi1,hk1⟩,fun h12=>by
   have hO:=z4h hc hk1 ht;have hn:=x6e (hO.name (by omega));exact (q6x hc hG1 hk1 ht (z6f (by omega) (by simpa using hn))).1⟩
 have hdo:=q2m p (by omega) tape watch htp bs vs (VY M) st (ZZ (VY M)) hst1 hOk1 htr1 hou1 hr0 (by show M.reads<=_;omega) g it hDo;have hml:(doM p tape watch (VY M) (ZZ (VY M)) g it).2.mem.length=(VY M).mem.length:=z9e;generalize hr:doM p tape watch (VY M) (ZZ (VY M)) g it=r at *
 obtain ⟨a',M'⟩:=r;unfold z2r at hK;simp only at hK hdo hml;by_cases h0:M'.fin=0
 ·rw [if_pos h0] at hK;have hb':bs.length=M'.mem.length:=by rw [hml];exact hb
  conv=>whnf
  repeat' (first|((first|(refine iM fun _=>?_)|refine dA ?_|refine And.intro rfl ?_|refine aD ?_|refine aR ?_|refine bP ?_|(refine iA fun _=>?_)|refine IdxK.xs (by omega) ?_|refine QL (by omega) ?_|(refine ByteK.at (by omega) ?_)|refine wI ?_|(refine IdxK.at (k:=(a-1).toNat) (by omega) hgl rfl ?_));conv=>whnf)|(apply bD<;>intro _<;>first|omega|conv=>whnf)|(apply bE<;>intro _<;>first|omega|conv=>whnf)|(apply bN<;>intro _<;>conv=>whnf)|(apply bB<;>intro _<;>conv=>whnf)|(refine CallK.heap [(1000,0),(1001,2),(2001,3),(2002,4),(2003,5),(2004,6),(2500,2500)] 0 (by repeat' (first|exact ArgsH.nil|refine ArgsH.cons ?_ ?_|exact LSub.refl _|exact LSub.p Sub.nils|exact LSub.p (Sub.tt rfl)|exact LSub.p (Sub.ff rfl)|exact LSub.p (Sub.int (by omega)))) (by refine BlksH.cons (j:=0) rfl rfl ?_ ?_;exact CSub.refl _;refine BlksH.cons (j:=2) rfl rfl ?_ ?_;exact CSub.refl _;refine BlksH.cons (j:=3) rfl rfl ?_ ?_;exact CSub.refl _;refine BlksH.cons (j:=4) rfl rfl ?_ ?_;exact CSub.refl _;refine BlksH.cons (j:=5) rfl rfl ?_ ?_;exact CSub.refl _;refine BlksH.cons (j:=6) rfl rfl ?_ ?_;exact CSub.refl _;refine BlksH.cons (j:=2500) rfl rfl ?_ ?_;exact CSub.refl _;exact BlksH.nil) hdo rfl rfl ?_;rintro l' H' ⟨vs',rfl,rfl⟩;conv=>whnf))
  all_goals first
   | (exfalso;omega)
   | exact hK ⟨.next a' M',gv,0,bs,vs',it⟩ _ rfl hb' (Le.of_eq rfl)
   | exact hK ⟨.next a' M',gv,0,bs,vs',it⟩ _ rfl hb' (VA (RIx.st p tape watch fuel ⟨.next a' M',gv,0,bs,vs',it⟩).sl [_])
 ·rw [if_neg h0] at hK;conv=>whnf
  repeat' (first|((first|(refine iM fun _=>?_)|refine dA ?_|refine And.intro rfl ?_|refine aD ?_|refine aR ?_|refine bP ?_|(refine iA fun _=>?_)|refine IdxK.xs (by omega) ?_|refine QL (by omega) ?_|(refine ByteK.at (by omega) ?_)|refine wI ?_|(refine IdxK.at (k:=(a-1).toNat) (by omega) hgl rfl ?_));conv=>whnf)|(apply bD<;>intro _<;>first|omega|conv=>whnf)|(apply bE<;>intro _<;>first|omega|conv=>whnf)|(apply bN<;>intro _<;>conv=>whnf)|(apply bB<;>intro _<;>conv=>whnf)|(refine CallK.heap [(1000,0),(1001,2),(2001,3),(2002,4),(2003,5),(2004,6),(2500,2500)] 0 (by repeat' (first|exact ArgsH.nil|refine ArgsH.cons ?_ ?_|exact LSub.refl _|exact LSub.p Sub.nils|exact LSub.p (Sub.tt rfl)|exact LSub.p (Sub.ff rfl)|exact LSub.p (Sub.int (by omega)))) (by refine BlksH.cons (j:=0) rfl rfl ?_ ?_;exact CSub.refl _;refine BlksH.cons (j:=2) rfl rfl ?_ ?_;exact CSub.refl _;refine BlksH.cons (j:=3) rfl rfl ?_ ?_;exact CSub.refl _;refine BlksH.cons (j:=4) rfl rfl ?_ ?_;exact CSub.refl _;refine BlksH.cons (j:=5) rfl rfl ?_ ?_;exact CSub.refl _;refine BlksH.cons (j:=6) rfl rfl ?_ ?_;exact CSub.refl _;refine BlksH.cons (j:=2500) rfl rfl ?_ ?_;exact CSub.refl _;exact BlksH.nil) hdo rfl rfl ?_;rintro l' H' ⟨vs',rfl,rfl⟩;conv=>whnf))
  all_goals first
   | (exfalso;omega)
   | exact hK ⟨.fin M',gv,a',bs,vs',it⟩ _ rfl trivial (Le.of_eq rfl)
   | exact hK ⟨.fin M',gv,a',bs,vs',it⟩ _ rfl trivial (VA (RIx.st p tape watch fuel ⟨.fin M',gv,a',bs,vs',it⟩).sl [_])
theorem q5t {p:Pg} (hc:ZB p=true) (tape watch:List Int) {fuel:Int} {c:Cf} (h:NI p fuel c) (hn : ∀ M,c ≠ .fin M):NI p fuel (goC p tape watch fuel c)∧cfμ fuel (goC p tape watch fuel c)<cfμ fuel c:=by
 cases c with
 | fin M=>exact absurd rfl (hn M)
 | back g M =>
   obtain ⟨hG,h0,h1⟩:=h;obtain ⟨st,hst⟩:=hG.top;obtain ⟨_,⟨M',e,_,_⟩|⟨a,M',e,_,hG',hat,hl,hs⟩⟩:=x3s hc hG hst g
   ·show NI p fuel (GE p g M)∧cfμ fuel (GE p g M)<_;rw [e];exact ⟨trivial,succ_pos _⟩
   ·show NI p fuel (GE p g M)∧cfμ fuel (GE p g M)<_;rw [e];refine ⟨⟨by rw [hs];exact hG',by omega,by omega,hat⟩,?_⟩;show 6*(fuel-M'.steps).toNat+2*M'.stack.length+2<6*(fuel-M.steps).toNat+2*M.stack.length+1;rw [hs];omega
 | next a M =>
   obtain ⟨hG,h0,h1,hat⟩:=h;simp only [goC];by_cases ha:a = -1
   ·rw [if_pos ha];exact ⟨⟨hG,h0,h1⟩,by show _+1<_+2;omega⟩
   rw [if_neg ha];by_cases hf:M.steps=fuel
   ·rw [if_pos hf];exact ⟨trivial,succ_pos _⟩
   rw [if_neg hf];rcases hat with h|⟨g,it,hg,_,hit,hi,_⟩
   ·exact absurd h ha
   rw [hit];simp only;have hG1:Good p (VY M) M.steps:=hG.same rfl (Nat.le_refl _) hG.fin hG.r0 hG.rd hG.tr hG.ou;have key : ∀ (r:Int×Mc),r.2.steps=(VY M).steps->(r.2.fin=0->Good p r.2 (M.steps+1)∧AtOk p r.1 (ZZ r.2).proc∧r.2.stack.length<=M.stack.length+1)->NI p fuel (z2r r)∧cfμ fuel (z2r r)<cfμ fuel (.next a M):=fun r hs hr=>by
    have hs:r.2.steps=M.steps+1:=hs;unfold z2r;by_cases h2:r.2.fin=0
    ·rw [if_pos h2];obtain ⟨u1,u2,u3⟩:=hr h2;refine ⟨⟨by rw [hs];exact u1,by omega,by omega,u2⟩,?_⟩;show 6*(fuel-r.2.steps).toNat+2*r.2.stack.length+2<6*(fuel-M.steps).toNat+2*M.stack.length+2;omega
    ·rw [if_neg h2];exact ⟨trivial,succ_pos _⟩
   unfold stI;have hk1:p.procs[(ZZ (VY M)).proc]? = some g:=hg;have hi1:it∈itsOf p (ZZ (VY M)).proc g:=hi;by_cases h4:it.s.kind=4
   ·rw [if_pos h4];obtain ⟨u1,u2⟩:=z8n hc watch hG1 hk1 hi1 h4 rfl;exact key _ u1 fun hz=>⟨(u2 hz).1,(u2 hz).2.1,Nat.le_of_eq (u2 hz).2.2⟩
   rw [if_neg h4];by_cases h9:it.s.kind=9
   ·rw [if_pos h9];obtain ⟨u1,u2⟩:=z6z watch hG1 it.s rfl;generalize x4e watch (VY M) (ZZ (VY M)) it.s=r at *
    have hs:r.2.steps=M.steps+1:=u1;unfold x5j;by_cases h2:r.2.fin=0
    ·rw [if_pos h2];obtain ⟨v1,v2⟩:=u2 h2;have hl:r.2.stack.length=M.stack.length:=by rw [v2];rfl
     refine ⟨⟨by rw [hs];exact v1,by omega,by omega⟩,?_⟩;show 6*(fuel-r.2.steps).toNat+2*r.2.stack.length+1<6*(fuel-M.steps).toNat+2*M.stack.length+2;omega
    ·rw [if_neg h2];exact ⟨trivial,succ_pos _⟩
   rw [if_neg h9,q3c hk1];obtain ⟨u1,u2⟩:=w0k hc tape watch hG1 hk1 hi1 h4 h9 rfl;refine key _ u1 fun hz=>⟨(u2 hz).1,?_,?_⟩
   ·rw [x0t (u2 hz).2.2];exact (u2 hz).2.1
   ·rw [(u2 hz).2.2];exact Nat.le_succ _
theorem q9z {p:Pg} {M M':Mc} {st:List Fm} {f:Fm} {g a:Int} (h:CloseP p M st f g a M'):M'.stack=st:=by
 cases h<;>rfl
theorem x6b {p:Pg} {M M':Mc} {st:List Fm} {f:Fm} {g a:Int} (h:CloseP p M st f g a M'):M'.mem.length=M.mem.length:=by
 cases h<;>first|rfl|simp [setM,popM]
theorem q3h (p:Pg) (tape watch:List Int) (bs:List Nat) (vs:List Int) (M:Mc) (st:List Fm) (f:Fm) (hs:M.stack=st++[f]) (hM:OkM p bs M) (hfc:f.call<=100000) (gave:Int) (at_:Int) (M':Mc) (hC:CloseP p M st f gave at_ M') :
  SpecH Tryz.prog 160 [.ptr 1000 0,.p (.int .i64 gave)] (mH p tape watch bs vs M) (fun r H=>r = .p (.int .i64 at_)∧H=mH p tape watch bs vs M') :=
 (BS p tape watch bs vs M st f hs hM hfc gave at_ M' hC).post fun l H' ⟨es,he,hl,hH⟩=>⟨mH p tape watch bs vs M',⟨hl,rfl⟩,by
   subst hH;have e:M'.stack=st:=q9z hC;refine Le.cut ?_;show CutH (mHs p tape watch bs vs M' es) (mHs p tape watch bs vs M' (M'.stack.map (fmA bs)));rw [e];exact .same (.same (.cut he (.same (.same (.same (.same .nil))))))⟩
def z9o (bs:List Nat) (M:Mc):St:=⟨[(8,.ptr 1 0),(9,.p (.int .i64 0))],[(5,.own 2 1 (M.out.map (.int .i64))),(6,.own 68 2 (M.trace.map evA)),(2500,.ext (.cells 2 (ZQ bs M.mem))),
 (1,.obj 65 [.p (.int .i64 M.fin),.p (.int .i64 M.steps),.p (.int .i64 M.reads),.hd 5 0 M.out.length,.hd 6 0 M.trace.length])]⟩
def z9w (M:Mc):AV := .agg [.int .i64 M.fin,.int .i64 M.steps,.int .i64 M.reads,QO M.out,.sl (M.trace.map evA)]
def w3i (p:Pg) (tape watch:List Int) (fuel:Int) (r:AV):Prop := ∃ n M,q1q p tape watch fuel n (GC p) = .fin M∧r = .tup [z9w M,.int .i64 0]
theorem z0q (p:Pg) (hc:ZB p=true) (tape watch:List Int) (fuel:Int) (hfu:fuel<=1000000) (g:Int) (bs:List Nat) (vs:List Int) (it0:Item) (at_:Int) (M:Mc) (hG:NI p fuel (.back g M)) (hb:bs.length=M.mem.length) (K:Exit->St->Prop) (hK:Kgo p tape watch fuel (.back g M) K)
  (hR : ∀ (M':Mc),goC p tape watch fuel (.back g M) = .fin M'->K .ret (z9o bs M')) :
  W Tryz.prog tab Tryz.f101.ntmps q1l (x9u 0) K (x6i p tape watch fuel g at_ bs vs M it0):=by
 obtain ⟨hGd,hs0,hs1⟩:=hG;have hOk:=hGd.okM hc hb;obtain ⟨st,hst⟩:=hGd.top;unfold Kgo at hK;simp only [goC] at hK hR;obtain ⟨hfc,⟨M',e,hC,hfin⟩|⟨a,M',e,hC,hG',hat,hl,hs⟩⟩:=x3s hc hGd hst g
 ·have hcl:=q3h p tape watch bs vs M st (ZZ M) hst hOk hfc g (-1) M' hC;have hR1:=hR M' e;clear hR hK;conv=>whnf
  repeat' (first|((first|(refine iM fun _=>?_)|refine dA ?_|refine And.intro rfl ?_|refine aD ?_|refine aR ?_|refine bP ?_|(refine iA fun _=>?_)|refine IdxK.xs (by omega) ?_|refine QL (by omega) ?_|(refine ByteK.at (by omega) ?_)|refine wI ?_);conv=>whnf)|(apply bD<;>intro _<;>first|omega|conv=>whnf)|(apply bE<;>intro _<;>first|omega|conv=>whnf)|(apply bN<;>intro _<;>conv=>whnf)|(apply bB<;>intro _<;>conv=>whnf)|(refine CallK.heap [(1000,0),(1001,2),(2001,3),(2002,4),(2003,5),(2004,6),(2500,2500)] 0 (by repeat' (first|exact ArgsH.nil|refine ArgsH.cons ?_ ?_|exact LSub.refl _|exact LSub.p Sub.nils|exact LSub.p (Sub.tt rfl)|exact LSub.p (Sub.ff rfl)|exact LSub.p (Sub.int (by omega)))) (by refine BlksH.cons (j:=0) rfl rfl ?_ ?_;exact CSub.refl _;refine BlksH.cons (j:=2) rfl rfl ?_ ?_;exact CSub.refl _;refine BlksH.cons (j:=3) rfl rfl ?_ ?_;exact CSub.refl _;refine BlksH.cons (j:=4) rfl rfl ?_ ?_;exact CSub.refl _;refine BlksH.cons (j:=5) rfl rfl ?_ ?_;exact CSub.refl _;refine BlksH.cons (j:=6) rfl rfl ?_ ?_;exact CSub.refl _;refine BlksH.cons (j:=2500) rfl rfl ?_ ?_;exact CSub.refl _;exact BlksH.nil) hcl rfl rfl ?_;rintro l' H' ⟨rfl,rfl⟩;conv=>whnf))
  all_goals first
   | (exfalso;omega)
   | exact hR1
 ·have hcl:=q3h p tape watch bs vs M st (ZZ M) hst hOk hfc g a M' hC;have hb':bs.length=M'.mem.length:=by rw [x6b hC];exact hb
  have hfin:=hG'.fin;rw [e] at hK;clear hR;conv=>whnf
  repeat' (first|((first|(refine iM fun _=>?_)|refine dA ?_|refine And.intro rfl ?_|refine aD ?_|refine aR ?_|refine bP ?_|(refine iA fun _=>?_)|refine IdxK.xs (by omega) ?_|refine QL (by omega) ?_|(refine ByteK.at (by omega) ?_)|refine wI ?_);conv=>whnf)|(apply bD<;>intro _<;>first|omega|conv=>whnf)|(apply bE<;>intro _<;>first|omega|conv=>whnf)|(apply bN<;>intro _<;>conv=>whnf)|(apply bB<;>intro _<;>conv=>whnf)|(refine CallK.heap [(1000,0),(1001,2),(2001,3),(2002,4),(2003,5),(2004,6),(2500,2500)] 0 (by repeat' (first|exact ArgsH.nil|refine ArgsH.cons ?_ ?_|exact LSub.refl _|exact LSub.p Sub.nils|exact LSub.p (Sub.tt rfl)|exact LSub.p (Sub.ff rfl)|exact LSub.p (Sub.int (by omega)))) (by refine BlksH.cons (j:=0) rfl rfl ?_ ?_;exact CSub.refl _;refine BlksH.cons (j:=2) rfl rfl ?_ ?_;exact CSub.refl _;refine BlksH.cons (j:=3) rfl rfl ?_ ?_;exact CSub.refl _;refine BlksH.cons (j:=4) rfl rfl ?_ ?_;exact CSub.refl _;refine BlksH.cons (j:=5) rfl rfl ?_ ?_;exact CSub.refl _;refine BlksH.cons (j:=6) rfl rfl ?_ ?_;exact CSub.refl _;refine BlksH.cons (j:=2500) rfl rfl ?_ ?_;exact CSub.refl _;exact BlksH.nil) hcl rfl rfl ?_;rintro l' H' ⟨rfl,rfl⟩;conv=>whnf))
  all_goals first
   | (exfalso;omega)
   | exact hK ⟨.next a M',g,0,bs,vs,it0⟩ _ rfl hb' (Le.of_eq rfl)
   | exact hK ⟨.next a M',g,0,bs,vs,it0⟩ _ rfl hb' (VA (RIx.st p tape watch fuel ⟨.next a M',g,0,bs,vs,it0⟩).sl [_])
theorem z3z (p:Pg) (tape watch:List Int) (fuel gv at_:Int) (bs:List Nat) (vs:List Int) (it0:Item) (M:Mc) (K:Exit->St->Prop) (hR:K .ret (z9o bs M)) :
  W Tryz.prog tab Tryz.f101.ntmps q1l (x9u 2) K (x6i p tape watch fuel gv at_ bs vs M it0):=by
 conv=>whnf
 repeat' (first|((first|(refine iM fun _=>?_)|refine dA ?_|refine And.intro rfl ?_|refine aD ?_|refine aR ?_|refine bP ?_|(refine iA fun _=>?_)|refine IdxK.xs (by omega) ?_|refine QL (by omega) ?_|(refine ByteK.at (by omega) ?_)|refine wI ?_);conv=>whnf)|(apply bD<;>intro _<;>first|omega|conv=>whnf)|(apply bE<;>intro _<;>first|omega|conv=>whnf)|(apply bN<;>intro _<;>conv=>whnf)|(apply bB<;>intro _<;>conv=>whnf))
 all_goals first
  | exact hR
theorem z3l {bs:List Nat} {n:Nat} (h:bs.length=n):VZ bs (List.range n)=bs.map cpA:=by
 have:=x3a (bs:=[]) (nb:=bs);rw [List.nil_append,List.length_nil,h,<- List.range_eq_range'] at this;exact this
theorem z0l {bs:List Nat} {n:Nat} (h:bs.length=n):ZQ bs (List.replicate n 0)=bs.map fun b=>(b,.int .i64 0):=by
 have:=x0r (bs:=[]) (mem:=[]) (nb:=bs) rfl;rw [h] at this;exact this
def w4u:Item:=⟨⟨0,0,[],[],[],⟨0,0,[],[]⟩,false,[],[],[]⟩,0,0,0,0⟩
def Mz:Mc:=⟨[],[],0,0,0,[],[]⟩
theorem w4f:Sub (.agg [.int .i64 0,.int .i64 0,.int .i64 0,.nils,.nils]) (z9w Mz) :=
 Sub.agg (.cons (Sub.refl _) (.cons (Sub.refl _) (.cons (Sub.refl _) (.cons Sub.nils (.cons Sub.nils .nil)))))
theorem w5j {H:Heap} {k:Int} {R:AV->Prop} (hR:R (.tup [z9w Mz,.int .i64 k])):RetK H (.p (.tup [.agg [.int .i64 0,.int .i64 0,.int .i64 0,.nils,.nils],.int .i64 k])) R :=
 ⟨_,.p (Sub.tup (.cons w4f (.cons (Sub.refl _) .nil))),hR⟩
theorem z6d {H:Heap} {M:Mc} {R:AV->Prop} {e5 e6:TypeId} (h5:getH H 5=some (.own e5 1 (M.out.map (.int .i64)))) (h6:getH H 6=some (.own e6 2 (M.trace.map evA))) (hR:R (.tup [z9w M,.int .i64 0])) :
  RetK H (.tup [.agg [.p (.int .i64 M.fin),.p (.int .i64 M.steps),.p (.int .i64 M.reads),.hd 5 0 M.out.length,.hd 6 0 M.trace.length],.p (.int .i64 0)]) R :=
 ⟨_,.tup (cs:=[z9w M,.int .i64 0]) rfl (fun j l c hj hc=>by
   match j,hj,hc with
   | 0,hj,hc =>
     cases hj;cases hc;refine .agg rfl fun j l c hj hc => ?_
     match j,hj,hc with
     | 0,hj,hc=>cases hj;cases hc;exact .p (Sub.refl _)
     | 1,hj,hc=>cases hj;cases hc;exact .p (Sub.refl _)
     | 2,hj,hc=>cases hj;cases hc;exact .p (Sub.refl _)
     | 3,hj,hc=>cases hj;cases hc;exact .hd h5 (by rw [length_map])
     | 4,hj,hc=>cases hj;cases hc;exact .hd h6 (by rw [length_map])
     | j+5,hj,_=>cases hj
   | 1,hj,hc=>cases hj;cases hc;exact .p (Sub.refl _)
   | j+2,hj,_=>cases hj),hR⟩
def gSt (p:Pg) (tape watch:List Int) (fuel:Int) (j:Nat) (bs:List Nat):St:=⟨[(2,.p (.int .i64 fuel)),(8,.ptr 1 0),(10,.ptr 0 0),(34,.p (.int .i64 (p.globals.map AV.str).length)),(35,.p (.int .i64 j))],
 [(2500,.ext (.cells 2 (bs.map fun b=>(b,.int .i64 0)))),(0,.obj 192 [.p (.ip (sheetOf p).cells),.hd 2 0 j,.p (QO tape),.p (QO watch),.hd 3 0 0,.hd 4 0 0,.p (.int .i64 0),.p (.int .i64 0),.p (.int .i64 0),.hd 5 0 0,.hd 6 0 0]),(2,.own 193 1 (bs.map cpA)),(3,.own 246 1 []),(4,.own 2 1 []),(5,.own 2 1 []),(6,.own 68 2 []),(1,rO)]⟩
structure GIx where
 j:Nat
 bs:List Nat
theorem w1w (p:Pg) (hf:Fit p) (tape watch:List Int) (htp:tape.length<=10000000) (fuel:Int):SpecP Tryz.prog 101 [.agg p.cells,QO tape,.int .i64 fuel,QO watch] (fun r=>(ZB p=true∧0<=fuel∧fuel<=1000000->w3i p tape watch fuel r)∧(¬(ZB p=true∧0<=fuel∧fuel<=1000000)->r = .tup [z9w Mz,.int .i64 1])):=by
 refine sB q1l Tryz.func101 rfl Tryz.call101 ?_;conv=>whnf
 have hC:=KM p hf;by_cases hok:ZB p=true∧0<=fuel∧fuel<=1000000
 ·obtain ⟨hc,hf0,hf1⟩:=hok;rw [hc] at hC;obtain ⟨hg,hpl,hcn⟩:=YY hc;have hFl:=UI p (by omega) (by omega);have hPr:=XO (sheetOf p) mainS;obtain ⟨m1,m2,m3⟩:=x0x hc;have hst0:=x3n hc hf0;rw [show (sheetOf p).p=p from (QJ p).1,m1] at hPr;have hmf:=(JE (QM hc).1).pr _ (List.mem_of_getElem? m2);have hgm:(p.globals.map AV.str).length=p.globals.length:=length_map _;repeat' (first|((first|(refine iM fun _=>?_)|refine dA ?_|refine And.intro rfl ?_|refine aD ?_|refine aR ?_|refine bP ?_|(refine iA fun _=>?_)|refine IdxK.xs (by omega) ?_|refine QL (by omega) ?_|(refine ByteK.at (by omega) ?_)|refine wI ?_);conv=>whnf)|(apply bD<;>intro _<;>first|omega|conv=>whnf)|(apply bE<;>intro _<;>first|omega|conv=>whnf)|(apply bN<;>intro _<;>conv=>whnf)|(apply bB<;>intro _<;>conv=>whnf))
  refine z6i ?_;refine ScopeK.inv QU (c:=z9m) (RIx.st p tape watch fuel) RIx.lab (fun i=>NI p fuel i.c∧i.bok ∧ ∃ n,q1q p tape watch fuel n (GC p)=i.c) (fun i=>cfμ fuel i.c) x9u ?_ ?_ ?_
  ·rintro ⟨c,gv,at_,bs,vs,it⟩ _;cases c<;>rfl
  ·refine (show ∀ (K:Exit->St->Prop),(∀ l s',(∃ i:RIx,i.lab=l∧(NI p fuel i.c∧i.bok ∧ ∃ n,q1q p tape watch fuel n (GC p)=i.c)∧Le Tryz.f101.ntmps s' (i.st p tape watch fuel))->K (.goto l) s')->W Tryz.prog tab Tryz.f101.ntmps q1l z9m K _ from ?_) _ (fun _ _ h=>h);intro K hK;conv=>whnf
   repeat' (first|((first|(refine iM fun _=>?_)|refine dA ?_|refine And.intro rfl ?_|refine aD ?_|refine aR ?_|refine bP ?_|(refine iA fun _=>?_)|refine IdxK.xs (by omega) ?_|refine QL (by omega) ?_|(refine ByteK.at (by omega) ?_)|refine wI ?_|refine cP hC ?_|refine cP hFl ?_);conv=>whnf)|(apply bD<;>intro _<;>first|omega|conv=>whnf)|(apply bE<;>intro _<;>first|omega|conv=>whnf)|(apply bN<;>intro _<;>conv=>whnf)|(apply bB<;>intro _<;>conv=>whnf)|(refine And.intro ?_ ?_<;>conv=>whnf))
   all_goals try (exfalso;omega)
   all_goals try contradiction
   refine LoopK.inv QU (fun i:GIx=>gSt p tape watch fuel i.j i.bs) (fun i=>i.j<=p.globals.length∧i.bs.length=i.j) (fun i=>p.globals.length-i.j) ⟨0,[]⟩ ?_ ⟨zero_le _,rfl⟩ ?_
   ·refine Le.trans (Le.mk (H':=(gSt p tape watch fuel 0 []).H.tail) [(2,.own 193 1 []),(3,.own 246 1 []),(4,.own 2 1 []),(5,.own 2 1 []),(6,.own 68 2 [])] (by intro c hc;simp only [List.mem_cons,List.not_mem_nil,or_false] at hc;rcases hc with rfl|rfl|rfl|rfl|rfl<;>exact ⟨rfl,rfl⟩) (by decide) (by show (List.map _ _).Nodup;simp [gSt]) (sl':=(gSt p tape watch fuel 0 []).sl)
     (.cons (.refl _) (.cons (.refl _) (.cons (.refl _) (.cons (.refl _) (.cons (.refl _) .nil)))))
     (.cons rfl (.obj (.cons (.refl _) (.cons (.nil (.head _)) (.cons (.refl _) (.cons (.refl _) (.cons (.nil (.tail _ (.head _))) (.cons (.nil (.tail _ (.tail _ (.head _)))) (.cons (.refl _) (.cons (.refl _) (.cons (.refl _) (.cons (.nil (.tail _ (.tail _ (.tail _ (.head _))))) (.cons (.nil (.tail _ (.tail _ (.tail _ (.tail _ (.head _)))))) .nil)))))))))))) (.new (by simp) (.new (by simp) (.new (by simp) (.new (by simp) (.new (by simp) (.cons rfl (.refl _) .nil)))))))) (z2b 2500 2 (by rfl) (by decide))
   rintro ⟨j,bs⟩ ⟨h1,h2⟩;simp only at h1 h2 ⊢;have hbl:(bs.map cpA).length=bs.length:=length_map _;rcases Nat.lt_or_ge j p.globals.length with hj|hj
   ·unfold gSt;conv=>whnf
    repeat' (first|((first|(refine iM fun _=>?_)|refine dA ?_|refine And.intro rfl ?_|refine aD ?_|refine aR ?_|refine bP ?_|(refine iA fun _=>?_)|refine IdxK.xs (by omega) ?_|refine QL (by omega) ?_|(refine ByteK.at (by omega) ?_)|refine wI ?_|refine AppK.mk (n:=j) (by omega) rfl (by show (j+1)*8<=140737488355328;omega) (by show j+1<=9223372036854775807;omega) (fun x hx=>by rcases List.mem_singleton.1 hx with rfl;exact ⟨rfl,rfl⟩) ?_);conv=>whnf)|(apply bD<;>intro _<;>first|omega|conv=>whnf)|(apply bE<;>intro _<;>first|omega|conv=>whnf)|(apply bN<;>intro _<;>conv=>whnf)|(apply bB<;>intro _<;>conv=>whnf)|(refine PO QU 7 2500 ?_;conv=>whnf)|(refine ⟨⟨rfl,rfl⟩,fun b hb => ?_⟩;conv=>whnf))
    all_goals first
     | (exfalso;omega)
     | exact ⟨⟨j+1,bs++[b]⟩,⟨hj,by simp [h2]⟩,by simp only;omega,Le.of_eq (by simp only [List.map_append];rfl)⟩
   ·obtain rfl:j=p.globals.length:=by omega
    have hM0:OkM p bs (M00 p):=⟨by simp [M00,h2],(fun f hf=>by cases hf),by simp [M00],zero_le _,fun f hf=>by cases hf⟩;have hopen:=JR p tape watch bs [] (M00 p) hM0 (zero_le _) (mainN p) (prA p (mainN p)) m2 (q8s hc m2) (by omega) (by omega) [] (zero_le _) (fun v hv=>by cases hv) 0;have hq:mHq p tape watch bs [] (M00 p) (VZ bs [])=[(1000,.obj 192 [.p (.ip (sheetOf p).cells),.hd 1001 0 p.globals.length,.p (QO tape),.p (QO watch),.hd 2001 0 0,.hd 2002 0 0,.p (.int .i64 0),.p (.int .i64 0),.p (.int .i64 0),.hd 2003 0 0,.hd 2004 0 0]),(1001,.own 193 1 (bs.map cpA)),(2001,.own 246 1 []),(2002,.own 2 1 []),
      (2003,.own 2 1 []),(2004,.own 68 2 []),(2500,.ext (.cells 2 (bs.map fun b=>(b,.int .i64 0)))),(2005,.own 193 1 [])]:=by
     unfold mHq mH mO M00;simp only;rw [z3l h2,z0l h2];rfl
    rw [hq] at hopen;unfold gSt;conv=>whnf
    repeat' (first|((first|(refine iM fun _=>?_)|refine dA ?_|refine And.intro rfl ?_|refine aD ?_|refine aR ?_|refine bP ?_|(refine iA fun _=>?_)|refine IdxK.xs (by omega) ?_|refine QL (by omega) ?_|(refine ByteK.at (by omega) ?_)|refine wI ?_|refine cP hPr ?_);conv=>whnf)|(apply bD<;>intro _<;>first|omega|conv=>whnf)|(apply bE<;>intro _<;>first|omega|conv=>whnf)|(apply bN<;>intro _<;>conv=>whnf)|(apply bB<;>intro _<;>conv=>whnf))
    all_goals try (exfalso;omega)
    refine CallK.le ?_;refine CallK.nil 8 193 1 rfl (.cons rfl (.cons rfl (.row (.cons rfl .nil)))) ?_;refine CallK.heap [(1000,0),(1001,2),(2001,3),(2002,4),(2003,5),(2004,6),(2500,2500),(2005,8)] 0 (ArgsH.cons (LSub.refl _) (ArgsH.cons (LSub.refl _) (ArgsH.cons (LSub.refl _) (ArgsH.cons (LSub.refl _) ArgsH.nil)))) (by refine BlksH.cons (j:=0) rfl rfl ?_ ?_;exact CSub.refl _;refine BlksH.cons (j:=2) rfl rfl ?_ ?_;exact CSub.refl _;refine BlksH.cons (j:=3) rfl rfl ?_ ?_;exact CSub.refl _;refine BlksH.cons (j:=4) rfl rfl ?_ ?_;exact CSub.refl _;refine BlksH.cons (j:=5) rfl rfl ?_ ?_;exact CSub.refl _;refine BlksH.cons (j:=6) rfl rfl ?_ ?_;exact CSub.refl _;refine BlksH.cons (j:=2500) rfl rfl ?_ ?_;exact CSub.refl _;refine BlksH.cons (j:=8) rfl rfl ?_ ?_;exact CSub.refl _;exact BlksH.nil) hopen rfl rfl ?_;rintro l' H' ⟨nb,rfl,rfl,hnb⟩;conv=>whnf
    have hbl2:(bs++nb).length=(JQ p (mainN p) (prA p (mainN p)) [] 0 (M00 p)).mem.length:=by
     unfold JQ M00;simp only [List.length_append,List.length_replicate];omega
    refine ⟨⟨[(2,.p (.int .i64 fuel)),(8,.ptr 1 0),(10,.ptr 0 0),(11,.ptr 7 0),(12,.p (.int .i64 0)),(54,.p (.int .i64 (q2h p (mainN p) (prA p (mainN p)))))],rH p tape watch (bs++nb) [] (JQ p (mainN p) (prA p (mainN p)) [] 0 (M00 p)) w4u⟩,?_,?_⟩
    ·have hp:=q9c p hc tape watch htp fuel hf1 0 (bs++nb) [] w4u _ _ hst0 hbl2 K (fun i s' h1 h2 h3=>hK i.lab s' ⟨i,rfl,⟨h1▸(q5t hc tape watch hst0 (fun _ h=>by cases h)).1,h2,1,h1.symm⟩,h3⟩);conv=>whnf
     conv at hp=>whnf
     exact hp
    ·exact Le.mk [] (by simp) (by simp) (by show (List.map _ _).Nodup;simp [rH]) (.cons (.refl _) (.cons (.refl _) (.cons (.refl _) (.cons (.refl _) (.cons (.refl _) (.cons (.refl _) .nil))))))
      (.cons rfl (.refl _) (.cons rfl (.refl _) (.cons rfl (.refl _) (.cons rfl (.refl _) (.cons rfl (.refl _) (.cons rfl (.refl _) (.cons rfl (.refl _) (.cons rfl (.refl _) (.cons rfl (.obj (.cons (.refl _) (.cons (.refl _) (.cons (.p Sub.nils) (.cons (.refl _) (.cons (.refl _) (.cons (.refl _) (.cons (.refl _) (.cons (.refl _) (.cons (.p Sub.nils) (.cons (.p (Sub.ff rfl)) (.cons (.p Sub.nils) (.cons (.p Sub.nils) (.cons (.p Sub.nils) (.cons (.refl _) (.cons (.refl _) (.cons (.refl _) (.cons (.refl _) .nil)))))))))))))))))) .nil)))))))))
  ·rintro ⟨c,gv,at_,bs,vs,it⟩ ⟨hG,hb,n,hn⟩;have hgo:=q5t hc tape watch (p:=p) (fuel:=fuel) (c:=c) hG;cases c with
   | next a M =>
     refine q9c p hc tape watch htp fuel hf1 gv bs vs it a M hG hb _ fun i s' h1 h2 h3 => ?_;obtain ⟨u1,u2⟩:=hgo (fun _ h=>by cases h);exact ⟨i,rfl,⟨h1▸u1,h2,n+1,by rw [DV,hn,h1]⟩,h1▸u2,h3⟩
   | back g M =>
     refine z0q p hc tape watch fuel hf1 g bs vs it at_ M hG hb _ (fun i s' h1 h2 h3 => ?_) fun M' h1 => ?_
     ·obtain ⟨u1,u2⟩:=hgo (fun _ h=>by cases h);exact ⟨i,rfl,⟨h1▸u1,h2,n+1,by rw [DV,hn,h1]⟩,h1▸u2,h3⟩
     ·exact z6d rfl rfl ⟨fun _=>⟨n+1,M',by rw [DV,hn,h1],rfl⟩,fun h=>absurd ⟨hc,hf0,hf1⟩ h⟩
   | fin M =>
     refine z3z p tape watch fuel gv at_ bs vs it M _ ?_;exact z6d rfl rfl ⟨fun _=>⟨n,M,hn,rfl⟩,fun h=>absurd ⟨hc,hf0,hf1⟩ h⟩
 ·skip
  repeat' (first|((first|(refine iM fun _=>?_)|refine dA ?_|refine And.intro rfl ?_|refine aD ?_|refine aR ?_|refine bP ?_|(refine iA fun _=>?_)|refine IdxK.xs (by omega) ?_|refine QL (by omega) ?_|(refine ByteK.at (by omega) ?_)|refine wI ?_);conv=>whnf)|(apply bD<;>intro _<;>first|omega|conv=>whnf)|(apply bE<;>intro _<;>first|omega|conv=>whnf)|(apply bN<;>intro _<;>conv=>whnf)|(apply bB<;>intro _<;>conv=>whnf))
  refine z6i ?_;refine ScopeK.inv QU (c:=z9m) (fun i:Nat=>⟨[],[]⟩) (fun i=>0) (fun _=>False) (fun i=>0) x9u (fun _ h=>h.elim) ?_ (fun _ h=>h.elim);cases hc:ZB p;all_goals
   rw [hc] at hC hok;conv=>whnf
   repeat' (first|((first|(refine iM fun _=>?_)|refine dA ?_|refine And.intro rfl ?_|refine aD ?_|refine aR ?_|refine bP ?_|(refine iA fun _=>?_)|refine IdxK.xs (by omega) ?_|refine QL (by omega) ?_|(refine ByteK.at (by omega) ?_)|refine wI ?_|refine cP hC ?_);conv=>whnf)|(apply bD<;>intro _<;>first|omega|conv=>whnf)|(apply bE<;>intro _<;>first|omega|conv=>whnf)|(apply bN<;>intro _<;>conv=>whnf)|(apply bB<;>intro _<;>conv=>whnf))
   all_goals first
    | contradiction
    | exact w5j ⟨fun h=>absurd h hok,fun _=>rfl⟩
    | exact absurd ⟨rfl,by omega,by omega⟩ hok
def eR (p:Pg) (k:Nat) (g:Pr):Int->Int->Prop:=stR ((QZ p k g).real.filter (q9u p (endsR p)))
inductive Pos:List Fm->Int->Nat->Int->Prop
 | top {st:List Fm} {f:Fm} {x:Int}:Pos (st++[f]) x f.proc x
 | low {st:List Fm} {f:Fm} {x:Int} {k:Nat} {y:Int} (h:Pos st f.call k y):Pos (st++[f]) x k y
theorem Pos.inv {st:List Fm} {f:Fm} {x:Int} {k:Nat} {y:Int} (h:Pos (st++[f]) x k y):(k=f.proc∧y=x)∨Pos st f.call k y:=by
 generalize hl:st++[f]=l at h;cases h with
 | top =>
   obtain ⟨_,h2⟩:=List.append_inj' hl rfl;cases h2;exact .inl ⟨rfl,rfl⟩
 | low h =>
   obtain ⟨rfl,h2⟩:=List.append_inj' hl rfl;cases h2;exact .inr h
def EvP (p:Pg) (P:Nat->Int->Prop) (e:Int×List Int):Prop := ∃ k g t,p.procs[k]? = some g∧t∈flL g.body∧t.id=e.1∧Rch (eR p k g) 0 e.1∧(Rch (eR p k g) e.1 (-1) ∨ ∃ y,P k y∧Rch (eR p k g) e.1 y)
structure InvM (p:Pg) (M:Mc) (x:Int):Prop where
 pos : ∀ k y,Pos M.stack x k y -> ∃ g,p.procs[k]? = some g∧Rch (eR p k g) 0 y
 ev : ∀ e∈M.trace,EvP p (Pos M.stack x) e
 fr : ∀ f∈M.stack,(f.call=0∧f.proc=mainN p)∨(f.call≠0 ∧ ∃ g it,p.procs[f.proc]? = some g∧(sheetOf p).l[(f.call-1).toNat]? = some it∧g.name=it.s.proc)
def closedE (p:Pg) (e:Int×List Int):Prop := ∃ k g t,p.procs[k]? = some g∧t∈flL g.body∧t.id=e.1∧Rch (eR p k g) 0 e.1∧Rch (eR p k g) e.1 (-1)
def liveE (p:Pg) (e:Int×List Int):Prop := ∃ k g t,p.procs[k]? = some g∧t∈flL g.body∧t.id=e.1∧Rch (eR p k g) 0 e.1
structure InvF (p:Pg) (M:Mc):Prop where
 live : ∀ e∈M.trace,liveE p e
 done:M.fin=1->mainS∈endsR p ∧ ∀ e∈M.trace,closedE p e
def z9p (p:Pg):Cf->Prop
 | .next a M=>InvM p M a
 | .back _ M=>InvM p M (-1)
 | .fin M=>InvF p M
theorem InvM.fin {p:Pg} {M M':Mc} {x:Int} (h:InvM p M x) (ht:M'.trace=M.trace) (hf:M'.fin≠1):InvF p M' :=
 ⟨fun e he=>by
   obtain ⟨k,g,t,h1,h2,h3,h4,_⟩:=h.ev e (ht▸he);exact ⟨k,g,t,h1,h2,h3,h4⟩,fun h=>absurd h hf⟩
theorem LQ {w:List Int} {M:Mc} {id:Int} {v:List Int} {e:Int×List Int} (h:e∈(QG w M id v).trace):e∈M.trace∨e.1=id:=by
 unfold QG at h;cases hw:w.any (fun x=>decide (id=x))<;>rw [hw] at h
 ·exact .inl h
 ·rcases List.mem_append.1 h with h|h
  ·exact .inl h
  ·rw [List.mem_singleton.1 h];exact .inr rfl
section
variable {p:Pg} (hc:ZB p=true)
include hc
theorem z8s {k:Nat} {g:Pr} (hk:p.procs[k]? = some g) {it:Item} (hi:it∈itsOf p k g) {b:Int} (hb:b∈VH (sheetOf p) g it) (hcall:it.s.kind=4->it.s.proc∈endsR p):eR p k g it.s.id b:=by
 refine ⟨⟨it.s.id,b,1⟩,List.mem_filter.2 ⟨((FC hc hk).2 _).2 (z6a hi hb),?_⟩,rfl,rfl⟩;unfold q9u;rw [Bool.or_eq_true];refine .inr ?_;show (match z4l p it.s.id with|some s=>_|none=>_)=true;rw [z8j hc hk (BC hi)];show (!(decide (it.s.kind=4) && !((endsR p).any fun x=>it.s.proc==x)))=true;by_cases h4:it.s.kind=4
 ·have h5:((endsR p).any fun x=>it.s.proc==x)=true:=List.any_eq_true.2 ⟨_,hcall h4,by simp⟩;rw [h5];simp
 ·simp [h4]
theorem x3j {k:Nat} {g:Pr} (hk:p.procs[k]? = some g):eR p k g 0 (q2h p k g):=by
 refine ⟨⟨0,w4w p k g,1⟩,List.mem_filter.2 ⟨((FC hc hk).2 _).2 (by unfold QF w4w;exact mem_cons_self),?_⟩,rfl,rfl⟩;unfold q9u;simp
theorem w1x {k:Nat} {g:Pr} (hk:p.procs[k]? = some g) (h:Rch (eR p k g) 0 (-1)):g.name∈endsR p:=(z2i hc hk).2 h
omit hc in
theorem InvM.on {M M':Mc} {a b:Int} {st:List Fm} {f:Fm} (h:InvM p M a) (hs:M.stack=st++[f]) (hs':M'.stack=M.stack) {g:Pr} (hk:p.procs[f.proc]? = some g) {it:Item} (hi:it∈itsOf p f.proc g) (hid:it.s.id=a) (hb:eR p f.proc g a b)
  (ht : ∀ e∈M'.trace,e∈M.trace∨e.1=it.s.id):InvM p M' b:=by
 have h0:Rch (eR p f.proc g) 0 a:=by
  obtain ⟨g',h1,h2⟩:=h.pos f.proc a (by rw [hs];exact .top);rw [hk] at h1;cases h1;exact h2
 refine ⟨fun k y hp => ?_,fun e he => ?_,fun f' hf=>h.fr f' (hs'▸hf)⟩
 ·rw [hs',hs] at hp;rcases hp.inv with ⟨rfl,rfl⟩|hp
  ·exact ⟨g,hk,.tail h0 hb⟩
  ·exact h.pos k y (by rw [hs];exact .low hp)
 ·rcases ht e he with he|he
  ·obtain ⟨k,g',t,h1,h2,h3,h4,h5⟩:=h.ev e he;refine ⟨k,g',t,h1,h2,h3,h4,?_⟩;rcases h5 with h5|⟨y,h5,h6⟩
   ·exact .inl h5
   ·rw [hs] at h5;rcases h5.inv with ⟨rfl,rfl⟩|h5
    ·rw [hk] at h1;cases h1;exact .inr ⟨b,by rw [hs',hs];exact .top,.tail h6 hb⟩
    ·exact .inr ⟨y,by rw [hs',hs];exact .low h5,h6⟩
  ·rw [hid] at he;exact ⟨f.proc,g,it.s,hk,BC hi,by rw [he,hid],by rw [he];exact h0,.inr ⟨b,by rw [hs',hs];exact .top,by rw [he];exact .tail .refl hb⟩⟩
theorem InvM.push {M M':Mc} {a:Int} {st:List Fm} {f n:Fm} (h:InvM p M a) (hs:M.stack=st++[f]) (hs':M'.stack=M.stack++[n]) (hn:n.call=a) {g:Pr} (hk:p.procs[f.proc]? = some g) {it:Item} (hi:it∈itsOf p f.proc g) (hid:it.s.id=a) {q:Pr} (hq:p.procs[n.proc]? = some q) (hnm:q.name=it.s.proc)
  (ht : ∀ e∈M'.trace,e∈M.trace∨e.1=it.s.id):InvM p M' (q2h p n.proc q):=by
 have h0:Rch (eR p f.proc g) 0 a:=by
  obtain ⟨g',h1,h2⟩:=h.pos f.proc a (by rw [hs];exact .top);rw [hk] at h1;cases h1;exact h2
 have hup : ∀ k y,Pos M.stack a k y->Pos M'.stack (q2h p n.proc q) k y:=fun k y hp=>by
  rw [hs'];exact .low (by rw [hn];exact hp)
 refine ⟨fun k y hp => ?_,fun e he => ?_,fun f' hf => ?_⟩
 ·rw [hs'] at hp;rcases hp.inv with ⟨rfl,rfl⟩|hp
  ·exact ⟨q,hq,.tail .refl (x3j hc hq)⟩
  ·rw [hn] at hp;exact h.pos k y hp
 ·rcases ht e he with he|he
  ·obtain ⟨k,g',t,h1,h2,h3,h4,h5⟩:=h.ev e he;exact ⟨k,g',t,h1,h2,h3,h4,h5.imp id fun ⟨y,h6,h7⟩=>⟨y,hup _ _ h6,h7⟩⟩
  ·rw [hid] at he;exact ⟨f.proc,g,it.s,hk,BC hi,by rw [he,hid],by rw [he];exact h0,.inr ⟨a,hup _ _ (by rw [hs];exact .top),by rw [he];exact .refl⟩⟩
 ·rw [hs'] at hf;rcases List.mem_append.1 hf with hf|hf
  ·exact h.fr f' hf
  ·rw [List.mem_singleton.1 hf];have:=YG (QM hc).1 hk (BC hi);refine .inr ⟨by omega,q,it,hq,?_,hnm⟩;rw [hn,<- hid];exact z7j hc hk hi
theorem z1y:z9p p (GC p):=by
 obtain ⟨h1,h2,h3⟩:=x0x hc;have hs:(JQ p (mainN p) (prA p (mainN p)) [] 0 (M00 p)).stack=[]++[⟨mainN p,varsS p (prA p (mainN p)),List.range p.globals.length++[]++List.range' (M00 p).mem.length (prA p (mainN p)).vars.length,0⟩]:=rfl;refine InvM.mk (fun k y hp => ?_) (fun e he=>(by cases he)) (fun f hf => ?_)
 ·rw [hs] at hp;rcases hp.inv with ⟨rfl,rfl⟩|hp
  ·exact ⟨_,h2,.tail .refl (x3j hc h2)⟩
  ·generalize hl:([]:List Fm)=l at hp;cases hp<;>simp at hl
 ·rw [hs] at hf;rw [List.mem_singleton.1 hf];exact .inl ⟨rfl,rfl⟩
theorem z0r:(prA p (mainN p)).name=mainS:=by
 obtain ⟨h1,h2,_⟩:=x0x hc;obtain ⟨k,f,h3,_,h5,_⟩:=x4v hc;obtain ⟨k',hk',h6,_,_,h7⟩:=q0m (p:=p) (n:=mainS) (List.mem_map.2 ⟨f,List.mem_of_getElem? h3,h5⟩);have e:mainN p=k':=by unfold mainN;rw [h6];rfl
 rw [e,q3c (List.getElem?_eq_getElem hk')];exact h7
omit hc in
theorem w2w (tape watch:List Int) {M:Mc} {f:Fm} {g:Pr} {it:Item} {r:Int×Mc} (hr:r=doM p tape watch M f g it) (h0:M.fin=0):(∀ e∈r.2.trace,e∈M.trace∨e.1=it.s.id)∧(r.2.fin≠0->r.2.trace=M.trace∧r.2.fin≠1):=by
 subst hr;have key : ∀ (M1 M2:Mc) (v:List Int),M1.trace=M.trace->M1.fin=0->M2.trace=(QG watch M1 it.s.id v).trace->M2.fin=(QG watch M1 it.s.id v).fin->(∀ e∈M2.trace,e∈M.trace∨e.1=it.s.id)∧(M2.fin≠0->M2.trace=M.trace∧M2.fin≠1):=fun M1 M2 v h1 h2 h3 h4=>by
  refine ⟨fun e he => ?_,fun h => ?_⟩
  ·rw [h3] at he;rcases LQ he with h|h
   ·exact .inl (h1▸h)
   ·exact .inr h
  ·rw [h4,(VJ watch M1 it.s.id v).2.2.1,h2] at h;exact absurd rfl h
 have bad : ∀ c:Int,c≠1->(∀ e∈(endM M c).trace,e∈M.trace∨e.1=it.s.id)∧((endM M c).fin≠0->(endM M c).trace=M.trace∧(endM M c).fin≠1):=fun c hc=>⟨fun e he => .inl he,fun _=>⟨rfl,hc⟩⟩;unfold doM;split
 ·exact key M _ [] rfl h0 rfl rfl
 split
 ·exact key M _ [] rfl h0 rfl rfl
 split
 ·exact key M _ [] rfl h0 rfl rfl
 split
 ·split
  ·exact bad 3 (by decide)
  ·exact key (setM { M with reads:=M.reads+1 } (varM f it.s.name) (tape.getD M.reads.toNat 0)) _ [tape.getD M.reads.toNat 0] rfl h0 rfl rfl
 cases (QC M f it.s.x).2 with
 | false=>exact bad 4 (by decide)
 | true =>
   rw [cond_true];generalize (QC M f it.s.x).1=n;split
   ·exact key M _ [n] rfl h0 rfl rfl
   split
   ·exact key M _ [n] rfl h0 rfl rfl
   split
   ·exact key M _ [n] rfl h0 rfl rfl
   split
   ·exact key M _ [n] rfl h0 rfl rfl
   ·exact key M _ [n] rfl h0 rfl rfl
theorem z3m {M:Mc} {b:Int} (hG:Good p M b) (h:InvM p M (-1)) (gave:Int):z9p p (GE p gave M):=by
 obtain ⟨st,hs⟩:=hG.top;have hst:M.stack.dropLast=st:=by rw [hs,List.dropLast_concat]
 have hch:=hG.ch;rw [hs] at hch;have hfr:=h.fr (ZZ M) (by rw [hs];simp);obtain ⟨q',hq',hend⟩:=h.pos _ _ (by rw [hs];exact .top);have hen:=w1x hc hq' hend;generalize hF:ZZ M=F at *
 unfold GE;rw [hst,hF];generalize hL:st++[F]=L at hch;cases hch with
 | one h0 =>
   rename_i f;obtain ⟨rfl,h2⟩:=List.append_inj' (show st++[F]=[]++[f] from hL) rfl;have h2:F=f:=by simpa using h2
   subst h2;rw [if_pos h0];refine InvF.mk (fun e he => ?_) fun _=>⟨?_,fun e he => ?_⟩
   ·obtain ⟨k,g,t,u1,u2,u3,u4,_⟩:=h.ev e he;exact ⟨k,g,t,u1,u2,u3,u4⟩
   ·rcases hfr with ⟨_,hm⟩|⟨hne,_⟩
    ·rw [hm,(x0x hc).2.1] at hq';cases hq';rw [z0r hc] at hen;exact hen
    ·exact absurd h0 hne
   ·obtain ⟨k,g,t,u1,u2,u3,u4,u5⟩:=h.ev e he;refine ⟨k,g,t,u1,u2,u3,u4,?_⟩;rcases u5 with u5|⟨y,u5,u6⟩
    ·exact u5
    ·rw [hs] at u5;rcases u5.inv with ⟨_,rfl⟩|u5
     ·exact u6
     ·generalize hl:([]:List Fm)=l at u5;cases u5<;>simp at hl
 | push hl h1 hle hit hk hp hi hid =>
   rename_i l g f q it;obtain ⟨rfl,h2⟩:=List.append_inj' hL rfl;have h2:F=f:=by simpa using h2
   subst h2;rw [if_neg (by omega),hit];have hpr:it.s.proc∈endsR p:=by
    rcases hfr with ⟨h0,_⟩|⟨_,g',it',v1,v2,v3⟩
    ·omega
    ·rw [hit] at v2;cases v2;rw [hq'] at v1;cases v1;rw [<- v3];exact hen
   have hstep:eR p g.proc q F.call it.next:=by
    rw [<- hid];refine z8s hc hp hi ?_ fun _=>hpr;unfold VH;rw [if_neg (by omega),if_neg (by omega),if_neg (by omega),if_neg (by omega),if_neg (by omega),if_neg (by omega)];exact mem_cons_self
   have key : ∀ M':Mc,M'.stack=l++[g]->M'.trace=M.trace->InvM p M' it.next:=fun M' e1 e2=>by
    refine ⟨fun k y hP => ?_,fun e he => ?_,fun f' hf=>h.fr f' (by rw [hs];rw [e1] at hf;exact List.mem_append_left _ hf)⟩
    ·rw [e1] at hP;rcases hP.inv with ⟨rfl,rfl⟩|hP
     ·obtain ⟨q2,w1,w2⟩:=h.pos g.proc F.call (by rw [hs];exact .low .top);rw [hp] at w1;cases w1;exact ⟨q,hp,.tail w2 hstep⟩
     ·exact h.pos k y (by rw [hs];exact .low (.low hP))
    ·rw [e2] at he;obtain ⟨k,g',t,u1,u2,u3,u4,u5⟩:=h.ev e he;refine ⟨k,g',t,u1,u2,u3,u4,?_⟩;rcases u5 with u5|⟨y,u5,u6⟩
     ·exact .inl u5
     ·rw [hs] at u5;rcases u5.inv with ⟨_,rfl⟩|u5
      ·exact .inl u6
      ·rcases u5.inv with ⟨rfl,rfl⟩|u5
       ·rw [hp] at u1;cases u1;exact .inr ⟨it.next,by rw [e1];exact .top,.tail u6 hstep⟩
       ·exact .inr ⟨y,by rw [e1];exact .low u5,u6⟩
   show InvM p (if it.s.name=[] then _ else _) it.next;split
   ·exact key _ rfl rfl
   ·exact key _ rfl rfl
omit hc in
theorem w0h (watch:List Int) {M:Mc} {f:Fm} {t:S} {r:Int×Mc} (hr:r=x4e watch M f t) (h0:M.fin=0):(∀ e∈r.2.trace,e∈M.trace∨e.1=t.id)∧(r.2.fin≠0->r.2.trace=M.trace∧r.2.fin≠1):=by
 subst hr;have key : ∀ v,(∀ e∈(QG watch M t.id v).trace,e∈M.trace∨e.1=t.id)∧((QG watch M t.id v).fin≠0->(QG watch M t.id v).trace=M.trace∧(QG watch M t.id v).fin≠1):=fun v=>⟨fun e he=>LQ he,fun h=>by
  rw [(VJ watch M t.id v).2.2.1,h0] at h;exact absurd rfl h⟩
 unfold x4e;cases t.has with
 | false=>exact key []
 | true =>
   rw [cond_true];cases (QC M f t.x).2 with
   | false=>exact ⟨fun e he => .inl he,fun _=>⟨rfl,by show (4:Int)≠1;decide⟩⟩
   | true=>exact key _
theorem z4s (watch:List Int) {M:Mc} {b:Int} (hG:Good p M b) {g:Pr} (hk:p.procs[(ZZ M).proc]? = some g) {it:Item} (hi:it∈itsOf p (ZZ M).proc g) (h4:it.s.kind=4) (h:InvM p M it.s.id):z9p p (z2r (JA p watch M (ZZ M) it.s (MQ p it.s) (prA p (MQ p it.s)))):=by
 have ht:=BC hi;obtain ⟨k0,k1,k2⟩:=x9s hc hk ht h4;obtain ⟨st,hst⟩:=hG.top;have hnm:(prA p (MQ p it.s)).name=it.s.proc:=by
  obtain ⟨k',_,u2,_,u4,_⟩:=x5q hc (List.mem_flatMap.2 ⟨g,List.mem_of_getElem? hk,ht⟩) h4;have e:MQ p it.s=k':=by
   unfold MQ;show (caI p it.s).toNat=k';rw [u2];rfl
  rw [e];exact u4
 obtain ⟨a1,a2,a3,a4,a5,a6,a7,a8⟩:=q4a (f:=ZZ M) it.s.args [] M (fun a ha hr=>(q6x hc hG hk ht (z8p ha hr)).2) (fun v hv=>by cases hv);unfold JA;generalize argsM (ZZ M) it.s.args [] M=ar at *
 obtain ⟨ps,M1,ok⟩:=ar;simp only at a1 a2 a3 a4 a5 a6 a7 a8 ⊢;unfold z2r;cases ok with
 | false =>
   have h8:M1.fin=4:=a8 rfl;rw [cond_false,if_neg (by show ¬M1.fin=0;omega)];exact h.fin a6 (by show M1.fin≠1;omega)
 | true =>
   obtain ⟨b1,_,_⟩:=a7 rfl;rw [cond_true];split
   ·exact h.fin (M':=endM M1 5) a6 (by show (5:Int)≠1;decide)
   ·have e1:=VJ watch M1 it.s.id [];have h0:(JQ p (MQ p it.s) (prA p (MQ p it.s)) ps it.s.id (QG watch M1 it.s.id [])).fin=0:=by
     show (QG watch M1 it.s.id []).fin=0;rw [e1.2.2.1,b1];exact hG.fin
    rw [if_pos h0];refine InvM.push hc (n:=⟨MQ p it.s,varsS p (prA p (MQ p it.s)),List.range p.globals.length++ps++List.range' (QG watch M1 it.s.id []).mem.length (prA p (MQ p it.s)).vars.length,it.s.id⟩) h hst ?_ rfl hk hi rfl k1 hnm ?_
    ·show (QG watch M1 it.s.id []).stack++_=M.stack++_;rw [e1.1,a1]
    ·intro e he;have he:e∈(QG watch M1 it.s.id []).trace:=he;rcases LQ he with h5|h5
     ·exact .inl (a6▸h5)
     ·exact .inr h5
theorem w0e (tape watch:List Int) {fuel:Int} {c:Cf} (hG:NI p fuel c) (h:z9p p c):z9p p (goC p tape watch fuel c):=by
 cases c with
 | fin M=>exact h
 | back g M=>exact z3m hc hG.1 h g
 | next a M =>
   obtain ⟨hGd,h0,h1,hat⟩:=hG;have h:InvM p M a:=h;simp only [goC];by_cases ha:a = -1
   ·rw [if_pos ha];show InvM p M (-1);rw [<- ha];exact h
   rw [if_neg ha];by_cases hf:M.steps=fuel
   ·rw [if_pos hf];exact h.fin (M':=endM M 2) rfl (by show (2:Int)≠1;decide)
   rw [if_neg hf];rcases hat with h2|⟨g,it,hg,_,hit,hi,hid⟩
   ·exact absurd h2 ha
   rw [hit];simp only;have hG1:Good p (VY M) M.steps:=hGd.same rfl (Nat.le_refl _) hGd.fin hGd.r0 hGd.rd hGd.tr hGd.ou;have hk1:p.procs[(ZZ (VY M)).proc]? = some g:=hg;have hi1:it∈itsOf p (ZZ (VY M)).proc g:=hi;have hI1:InvM p (VY M) it.s.id:=by
    rw [hid];exact ⟨h.pos,h.ev,h.fr⟩
   obtain ⟨st,hst⟩:=hG1.top;unfold stI;by_cases h4:it.s.kind=4
   ·rw [if_pos h4];exact z4s hc watch hG1 hk1 hi1 h4 hI1
   rw [if_neg h4];by_cases h9:it.s.kind=9
   ·rw [if_pos h9];obtain ⟨u1,u2⟩:=z6z watch hG1 it.s rfl;obtain ⟨v1,v2⟩:=w0h watch (M:=VY M) (f:=ZZ (VY M)) (t:=it.s) rfl hGd.fin;generalize x4e watch (VY M) (ZZ (VY M)) it.s=r at *
    unfold x5j;by_cases hz:r.2.fin=0
    ·rw [if_pos hz];refine hI1.on hst (u2 hz).2 hk1 hi1 rfl (z8s hc hk1 hi1 ?_ fun h=>absurd h h4) v1;unfold VH;rw [if_neg (by omega),if_neg (by omega),if_neg (by omega),if_neg (by omega),if_pos h9];exact mem_cons_self
    ·rw [if_neg hz];exact hI1.fin (v2 hz).1 (v2 hz).2
   rw [if_neg h9,q3c hk1];obtain ⟨u1,u2⟩:=w0k hc tape watch hG1 hk1 hi1 h4 h9 rfl;obtain ⟨v1,v2⟩:=w2w (M:=VY M) (f:=ZZ (VY M)) (g:=g) (it:=it) tape watch rfl hGd.fin;have hgo:=z2h (p:=p) tape watch (M:=VY M) (f:=ZZ (VY M)) (g:=g) h4 h9 rfl;generalize doM p tape watch (VY M) (ZZ (VY M)) g it=r at *
   unfold z2r;by_cases hz:r.2.fin=0
   ·rw [if_pos hz];exact hI1.on hst (u2 hz).2.2 hk1 hi1 rfl (z8s hc hk1 hi1 (hgo hz) fun h=>absurd h h4) v1
   ·rw [if_neg hz];exact hI1.fin (v2 hz).1 (v2 hz).2
theorem z9z (tape watch:List Int) {fuel:Int} (h0:0<=fuel) (n:Nat):NI p fuel (q1q p tape watch fuel n (GC p))∧z9p p (q1q p tape watch fuel n (GC p)):=by
 induction n with
 | zero=>exact ⟨x3n hc h0,z1y hc⟩
 | succ n ih =>
   rw [DV];refine ⟨?_,w0e hc tape watch ih.1 ih.2⟩;generalize q1q p tape watch fuel n (GC p)=c at *
   cases c with
   | fin M=>exact trivial
   | next a M=>exact (q5t hc tape watch ih.1 (fun _ h=>by cases h)).1
   | back g M=>exact (q5t hc tape watch ih.1 (fun _ h=>by cases h)).1
theorem z4u (tape watch:List Int) {fuel:Int} (h0:0<=fuel) {n:Nat} {M:Mc} (h:q1q p tape watch fuel n (GC p) = .fin M):InvF p M:=by
 have:=(z9z hc tape watch h0 n).2;rw [h] at this;exact this
end
section
variable {F:List (List Str)->List (List Str)} {n:Nat} {L O:List (List Str)}
end
section
variable {p:Pg}
end
section
variable {p:Pg} {j:Nat} {f:Pr}
end
theorem w4c {p:Pg} {k:Nat} {g:Pr} {a b:Int} (h:Rch (eR p k g) a b):Rch (wR p k g) a b:=h.mono fun _ _ ⟨s,hs,h1,h2⟩=>⟨s,(List.mem_filter.1 hs).1,h1,h2⟩
theorem FK (p:Pg) (hf:Fit p) (hc:ZB p=true) (tape:List Int) (htp:tape.length<=10000000) (fuel:Int) (h0:0<=fuel) (h1:fuel<=1000000) (hl:(allR p).length<=1000):SpecP Tryz.prog 51 [.agg p.cells,QO tape,.int .i64 fuel] (fun r => ∃ n M,q1q p tape (z7o p 0) fuel n (GC p) = .fin M∧r=z9w M):=by
 refine sB KF Tryz.func51 rfl Tryz.call51 ?_;conv=>whnf
 have hI:=MK p 0 hl;have hR:SpecP Tryz.prog 101 [.agg p.cells,QO tape,.int .i64 fuel,QO (z7o p 0)] (fun r=>w3i p tape (z7o p 0) fuel r):=(w1w p hf tape (z7o p 0) htp fuel).mono fun r hr=>hr.1 ⟨hc,h0,h1⟩;repeat' (first|((first|(refine iM fun _=>?_)|refine dA ?_|refine And.intro rfl ?_|refine aD ?_|refine aR ?_|refine bP ?_|(refine iA fun _=>?_)|refine IdxK.xs (by omega) ?_|refine QL (by omega) ?_|(refine ByteK.at (by omega) ?_)|refine wI ?_|refine cP hI ?_|(refine CallK.pure hR (.cons (Sub.refl _) (.cons (Sub.refl _) (.cons (Sub.refl _) (.cons (Sub.refl _) .nil)))) ?_;rintro _ ⟨n,M,hn,rfl⟩));conv=>whnf)|(apply bD<;>intro _<;>first|omega|conv=>whnf)|(apply bE<;>intro _<;>first|omega|conv=>whnf)|(apply bN<;>intro _<;>conv=>whnf)|(apply bB<;>intro _<;>conv=>whnf)|(refine And.intro ?_ ?_<;>conv=>whnf))
 all_goals first
  | exact ⟨_,.p (Sub.refl _),n,M,hn,rfl⟩
theorem z7i {p:Pg} (h:ZB p=true) {j:Nat} {f:Pr} (hj:p.procs[j]? = some f) {l:List Int} (hl:l∈trapsW (QZ p j f) f) {x:Int} (hx:x∈l) : ¬Rch (wR p j f) x (-1):=by
 obtain ⟨_,r,hT⟩:=((x0p h hj).2 l).1 hl;intro hr;exact hT.nx (Rch.closed (S:=fun y=>sccP (wR p j f) r y) (fun b c hb hbc=>hT.cl b c hb hbc) ((hT.mem x).1 hx).2 hr)
theorem z9h {p:Pg} (hc:ZB p=true) {k j:Nat} {g f:Pr} (hk:p.procs[k]? = some g) (hj:p.procs[j]? = some f) {t:S} (ht:t∈flL g.body) (h1:(QE p.procs j:Int)+1<=t.id) (h2:t.id<=(QE p.procs j+QY f.body:Nat)):k=j:=by
 obtain ⟨i1,u1,u2⟩:=z8e (p:=p) (j:=k) ht;have e1:=z7j hc hk u1;obtain ⟨i2,v1,v2⟩:=KP hj (k:=(t.id-1).toNat) (by omega) (by omega);rw [u2,v1] at e1;have e3:i2=i1:=Option.some.inj e1;have p1:=YQ _ _ _ _ _ _ i1 u1;have p2:=YQ _ _ _ _ _ _ i2 v2;rw [e3,p1] at p2
 exact_mod_cast p2
theorem z0i {p:Pg} (hc:ZB p=true) {j:Nat} {f:Pr} (hj:p.procs[j]? = some f) {l:List Int} (hl:l∈trapsW (QZ p j f) f) {e:Int×List Int} (he:closedE p e):z9u l e.1=false:=by
 obtain ⟨k,g,t,h1,h2,h3,h4,h5⟩:=he;cases hh:z9u l e.1 with
 | false=>rfl
 | true =>
   exfalso;have hm:e.1∈l:=by
    unfold z9u at hh;obtain ⟨y,hy,hyx⟩:=List.any_eq_true.1 hh;have:y=e.1:=by simpa [eq_comm] using hyx
    exact this▸hy
   have hb:=YG (QM hc).1 h1 h2;obtain ⟨_,r,hT⟩:=((x0p hc hj).2 l).1 hl;have hpl:=((hT.mem _).1 hm).1;have hkj:k=j:=by
    rcases hpl with h|h|h
    ·omega
    ·omega
    ·exact z9h hc h1 hj h2 (by omega) (by omega)
   subst hkj;rw [h1] at hj;cases hj;exact z7i hc h1 hl hm (w4c h5)
theorem GP (p:Pg) (tape:List Int) (fuel n:Int):SpecP Tryz.prog 8 [.agg p.cells,QO tape,.int .i64 fuel,.int .i64 n] (fun r=>r = .tt):=by
 refine sB JC Tryz.func8 rfl Tryz.call8 ?_;conv=>whnf
 cases hfb:z6p p with
 | false =>
   have hno : ¬gPg p<=20000:=by unfold z6p at hfb;simpa using hfb
   repeat' (first|((first|(refine iM fun _=>?_)|refine cP (WA _) ?_|refine dA ?_|refine And.intro rfl ?_|refine aD ?_|refine aR ?_|refine bP ?_|(refine iA fun _=>?_)|refine IdxK.xs (by omega) ?_|refine QL (by omega) ?_|(refine ByteK.at (by omega) ?_)|refine wI ?_|refine cP WM ?_);conv=>whnf)|(apply bD<;>intro _<;>first|omega|conv=>whnf)|(apply bE<;>intro _<;>first|omega|conv=>whnf)|(apply bN<;>intro _<;>conv=>whnf)|(apply bB<;>intro _<;>conv=>whnf))
   all_goals first
    | exact ⟨_,.p (Sub.refl _),rfl⟩
    | (exfalso;simp_all;done)
 | true =>
   have hf:Fit p:=z9c hfb;have hfit:gPg p<=20000:=by unfold z6p at hfb;simpa using hfb
   have hC:=FJ p hf 100;have htm:(tape.map (AV.int .i64)).length=tape.length:=length_map _;by_cases hok:q8z p 100=true∧0<=fuel∧fuel<=300∧tape.length<=100
   ·obtain ⟨hs,hf0,hf1,htl⟩:=hok;rw [hs] at hC;have hc:ZB p=true:=by unfold q8z at hs;rw [Bool.and_eq_true] at hs;exact hs.1
    have hal:=(JE (QM hc).1).len;have hW:=FK p hf hc tape (by omega) fuel hf0 (by omega) (by omega);have hPA:=FW p n (x7l hf);have hT:=z0z p hf (UP p n);obtain ⟨k,f,hkj,hw,_⟩:=x6t hc n;rw [LD hw hkj,z7c] at hT;generalize UP p n=pn at *
    have hlaw : ∀ l∈trapsW (QZ p k f) f,∀ e,closedE p e->z9u l e.1=false:=fun l hl e he=>z0i hc hkj hl he;generalize trapsW (QZ p k f) f=T at *
    repeat' (first|((first|(refine iM fun _=>?_)|refine cP (WA _) ?_|refine dA ?_|refine And.intro rfl ?_|refine aD ?_|refine aR ?_|refine bP ?_|(refine iA fun _=>?_)|refine IdxK.xs (by omega) ?_|refine QL (by omega) ?_|(refine ByteK.at (by omega) ?_)|refine wI ?_|refine cP WM ?_|refine cP hC ?_|(refine CallK.pure hW (.cons (Sub.refl _) (.cons (Sub.refl _) (.cons (Sub.refl _) .nil))) ?_;rintro _ ⟨m,M,hn,rfl⟩)|refine cP hPA ?_|refine cP hT ?_);conv=>whnf)|(apply bD<;>intro _<;>first|omega|conv=>whnf)|(apply bE<;>intro _<;>first|omega|conv=>whnf)|(apply bN<;>intro _<;>conv=>whnf)|(apply bB<;>intro _<;>conv=>whnf))
    all_goals try contradiction
    all_goals try (exfalso;omega)
    have hF:=z4u hc tape (z7o p 0) hf0 hn;have htl:(M.trace.map evA).length=M.trace.length:=length_map _;have hTl:(T.map QO).length=T.length:=length_map _;refine LoopK.inv QU (fun j:Nat=>⟨[(9,.p (.ip [.int .i64 M.fin,.int .i64 M.steps,.int .i64 M.reads,QO M.out,.sl (M.trace.map evA)])),(43,.p (.sl (T.map QO))),(44,.p (.int .i64 (T.map QO).length)),(45,.p (.int .i64 j))],[]⟩) (fun j=>j<=T.length) (fun j=>T.length-j) 0 (Le.of_eq rfl) (zero_le _) ?_;intro j hj;rcases Nat.lt_or_ge j T.length with hj2|hj2
    ·conv=>whnf
     repeat' (first|((first|(refine iM fun _=>?_)|refine dA ?_|refine And.intro rfl ?_|refine aD ?_|refine aR ?_|refine bP ?_|(refine iA fun _=>?_)|refine IdxK.xs (by omega) ?_|refine QL (by omega) ?_|(refine ByteK.at (by omega) ?_)|refine wI ?_);conv=>whnf)|(apply bD<;>intro _<;>first|omega|conv=>whnf)|(apply bE<;>intro _<;>first|omega|conv=>whnf)|(apply bN<;>intro _<;>conv=>whnf)|(apply bB<;>intro _<;>conv=>whnf))
     all_goals try (exfalso;omega)
     refine LoopK.inv QU (fun i:Nat=>⟨[(9,.p (.ip [.int .i64 M.fin,.int .i64 M.steps,.int .i64 M.reads,QO M.out,.sl (M.trace.map evA)])),(11,.p (QO T[j])),(43,.p (.sl (T.map QO))),(44,.p (.int .i64 (T.map QO).length)),(45,.p (.int .i64 j)),(50,.p (.sl (M.trace.map evA))),(51,.p (.int .i64 (M.trace.map evA).length)),(52,.p (.int .i64 i))],[]⟩) (fun i=>i<=M.trace.length) (fun i=>M.trace.length-i) 0 (Le.of_eq rfl) (zero_le _) ?_;intro i hi;rcases Nat.lt_or_ge i M.trace.length with hi2|hi2
     ·have hem:=List.getElem_mem hi2;have hen:=fun h=>hlaw _ (List.getElem_mem hj2) _ ((hF.done h).2 _ hem);have hH:=BA T[j] M.trace[i].1;conv=>whnf
      repeat' (first|((first|(refine iM fun _=>?_)|refine dA ?_|refine And.intro rfl ?_|refine aD ?_|refine aR ?_|refine bP ?_|(refine iA fun _=>?_)|refine IdxK.xs (by omega) ?_|refine QL (by omega) ?_|(refine ByteK.at (by omega) ?_)|refine wI ?_|refine cP hH ?_);conv=>whnf)|(apply bD<;>intro _<;>first|omega|conv=>whnf)|(apply bE<;>intro _<;>first|omega|conv=>whnf)|(apply bN<;>intro _<;>conv=>whnf)|(apply bB<;>intro _<;>conv=>whnf))
      all_goals first
       | (exfalso;omega)
       | contradiction
       | exact ⟨i+1,hi2,by omega,Le.of_eq rfl⟩
       | (exfalso
          have h9:M.fin=1:=by assumption
          have h10:z9u T[j] M.trace[i].1=true:=by assumption
          rw [hen h9] at h10;cases h10)
     ·conv=>whnf
      repeat' (first|((first|(refine iM fun _=>?_)|refine dA ?_|refine And.intro rfl ?_|refine aD ?_|refine aR ?_|refine bP ?_|(refine iA fun _=>?_)|refine IdxK.xs (by omega) ?_|refine QL (by omega) ?_|(refine ByteK.at (by omega) ?_)|refine wI ?_);conv=>whnf)|(apply bD<;>intro _<;>first|omega|conv=>whnf)|(apply bE<;>intro _<;>first|omega|conv=>whnf)|(apply bN<;>intro _<;>conv=>whnf)|(apply bB<;>intro _<;>conv=>whnf))
      all_goals first
       | (exfalso;omega)
       | exact ⟨j+1,hj2,by omega,Le.of_eq rfl⟩
    ·conv=>whnf
     repeat' (first|((first|(refine iM fun _=>?_)|refine dA ?_|refine And.intro rfl ?_|refine aD ?_|refine aR ?_|refine bP ?_|(refine iA fun _=>?_)|refine IdxK.xs (by omega) ?_|refine QL (by omega) ?_|(refine ByteK.at (by omega) ?_)|refine wI ?_);conv=>whnf)|(apply bD<;>intro _<;>first|omega|conv=>whnf)|(apply bE<;>intro _<;>first|omega|conv=>whnf)|(apply bN<;>intro _<;>conv=>whnf)|(apply bB<;>intro _<;>conv=>whnf))
     all_goals first
      | (exfalso;omega)
      | exact ⟨_,.p (Sub.refl _),rfl⟩
   ·cases hs:q8z p 100;all_goals
     rw [hs] at hC hok;repeat' (first|((first|(refine iM fun _=>?_)|refine cP (WA _) ?_|refine dA ?_|refine And.intro rfl ?_|refine aD ?_|refine aR ?_|refine bP ?_|(refine iA fun _=>?_)|refine IdxK.xs (by omega) ?_|refine QL (by omega) ?_|(refine ByteK.at (by omega) ?_)|refine wI ?_|refine cP WM ?_|refine cP hC ?_);conv=>whnf)|(apply bD<;>intro _<;>first|omega|conv=>whnf)|(apply bE<;>intro _<;>first|omega|conv=>whnf)|(apply bN<;>intro _<;>conv=>whnf)|(apply bB<;>intro _<;>conv=>whnf))
     all_goals first
      | contradiction
      | exact ⟨_,.p (Sub.refl _),rfl⟩
      | exact absurd ⟨rfl,by omega,by omega,by omega⟩ hok
end Go.Ab
