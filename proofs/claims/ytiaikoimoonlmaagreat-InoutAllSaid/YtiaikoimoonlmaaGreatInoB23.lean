/- give: a right program's book, its last loop walked. -/
import Derived.Test.YtiaikoimoonlmaaGreatInoB4
import Derived.Test.YtiaikoimoonlmaaGreatInoB14
import Derived.Test.YtiaikoimoonlmaaGreatInoB15
import Derived.Test.YtiaikoimoonlmaaGreatInoB17
import Derived.Test.YtiaikoimoonlmaaGreatInoB20
import Derived.Test.YtiaikoimoonlmaaGreatInoB21
import Derived.Test.YtiaikoimoonlmaaGreatInoB22
set_option linter.unusedSimpArgs false
set_option linter.unusedVariables false
set_option maxRecDepth 100000
set_option maxHeartbeats 16000000
namespace Go.Ab
open Go.Proofs.Tryz
open Go.Proofs
theorem KA (l:List Str) (hlen:l.length<=1000000000):SpecH prog 129 [.hd 1000 0 l.length] [(1000,.own 9 1 (l.map .str))] (fun r H=>r = .p (eStrs (XZ l))∧H=[]):=by
 have h:=z5h l hlen;refine ⟨h.go,fun σ β w vals h1 h2 h3=>(h.ok σ β w vals h1 h2 h3).mono fun ex w' hx => ?_⟩;obtain ⟨r,u,σ',β',H',he,⟨rfl,rfl⟩,hrep,hrel,hlat⟩:=hx;generalize XZ l=m at *
 obtain ⟨s',rfl,hle⟩:=Le.row (N:=1) (s:=⟨[(0,.hd 1000 0 m.length)],[(1000,.own 9 1 (m.map .str))]⟩) (k:=1000) (e:=9) (sz:=1) (es:=m.map .str) (zs:=[0]) rfl (K:=fun s=>s=⟨[(0,.p (eStrs m))],[]⟩)
  ⟨(u3k _).symm,rfl⟩
 obtain ⟨σ2,β2,hr2,hl2⟩:=hle σ' β' { tmps := #[u],defers:=[] } w' ⟨rfl,rfl,fun i=>by
  match i with
  | 0=>simpa [getS] using hrep
  | i+1=>exact .p (by simpa [getS] using Rep.any _),hrel⟩
 exact ⟨.p (eStrs m),u,σ2,β2,[],he,⟨rfl,rfl⟩,by simpa [getS] using hr2.slots 0,hr2.heap,hlat.trans hl2⟩
def z5s (p:Pg) (l1 l2 l3:LV) (n:Nat):Chunk := .obj 120 [.p (.ip (sheetOf p).cells),l1,l2,l3,.hd 0 0 n,.hd 1 0 n]
def JC (L:List (List Str)):Chunk := .own 22 1 (L.map eStrs)
def x6v (p:Pg) (k:Nat):Chunk := .own 133 1 (((wysB p).take k).map fun w => .ip w.cells)
theorem w3s (n:Nat):ElS (List.replicate n (AV.ofV (.slice none 0 0))) ((List.replicate n ([]:List Str)).map eStrs):=by
 refine ⟨by simp,fun m x h => ?_⟩;rw [u6t,u4r] at h;rw [u4r];split at h
 ·cases h;rw [if_pos (by assumption)];refine ⟨_,rfl,rfl,fun j c hc => ?_⟩
  match j,hc with
  | 0,hc=>cases hc;exact ⟨_,rfl,Sub.nils⟩
 ·cases h
theorem v7f {N:Nat} {a:AV} {p:Pg} {n:Nat} :
  Le N ⟨[(1,.p a),(3,.ptr 2 0)],[(2,.obj 120 [.p (.ip (sheetOf p).cells),.p (AV.ofS (.slice none 0 0)),.p (AV.ofS (.slice none 0 0)),.p (AV.ofS (.slice none 0 0)),.hd 0 0 n,.hd 1 0 n]),(1,.own 22 1 (List.replicate n (AV.ofV (.slice none 0 0)))),(0,.own 22 1 (List.replicate n (AV.ofV (.slice none 0 0))))]⟩
   ⟨[(1,.p a),(3,.ptr 2 0)],[(3,x6v p 0),(2,z5s p (.hd 3 0 0) (.p .nils) (.p .nils) n),(1,JC (List.replicate n [])),(0,JC (List.replicate n []))]⟩:=by
 refine Le.trans (Le.els (.same (.els (w3s n) (.els (w3s n) .nil)))) ?_;exact Le.mk [(3,x6v p 0)] (by simp [Chunk.new0,x6v];rfl) (by simp) (by simp) (.cons (.refl _) (.cons (.refl _) .nil)) (.new u3g (.cons rfl (.obj (.cons (.refl _) (.cons (.nil u3g) (.cons (.refl _) (.cons (.refl _) (.cons (.refl _) (.cons (.refl _) .nil))))))) (.cons rfl (.refl _) (.cons rfl (.refl _) .nil))))
def v9c (k:Nat):Nat:=if k=0 then 1 else if k=1 then 0 else k
theorem v9l {N:Nat} {a:AV} {p:Pg} {n:Nat} :
  Le N ⟨[(1,.p a),(3,.ptr 2 0)],[(2,.obj 120 [.p (.ip (sheetOf p).cells),.p (AV.ofS (.slice none 0 0)),.p (AV.ofS (.slice none 0 0)),.p (AV.ofS (.slice none 0 0)),.hd 1 0 n,.hd 0 0 n]),(1,.own 22 1 (List.replicate n (AV.ofV (.slice none 0 0)))),(0,.own 22 1 (List.replicate n (AV.ofV (.slice none 0 0))))]⟩
   ⟨[(1,.p a),(3,.ptr 2 0)],[(3,x6v p 0),(2,z5s p (.hd 3 0 0) (.p .nils) (.p .nils) n),(1,JC (List.replicate n [])),(0,JC (List.replicate n []))]⟩:=by
 refine Le.trans ?_ v7f;refine v3x v9c (fun k=>by unfold v9c;split<;>(try split)<;>simp_all) (fun j h0 h1=>by unfold v9c;rw [if_neg (by omega),if_neg (by omega)]) (.cons (.refl _) (.cons (.refl _) .nil)) (fun j c hj => ?_) (by simp);rcases u3c.1 hj with he|hj
 ·cases he;exact ⟨_,u3g,CSub.refl _⟩
 rcases u3c.1 hj with he|hj
 ·cases he;exact ⟨_,u3n _ (u3n _ u3g),CSub.refl _⟩
 rcases u3c.1 hj with he|hj
 ·cases he;exact ⟨_,u3n _ u3g,CSub.refl _⟩
 ·cases hj
theorem w7t {W O:List (List Str)} {k:Nat} (hk:k<W.length) (hl:W.length=O.length):((W.take k++O.drop k).map eStrs).set k (eStrs W[k])=(W.take (k+1)++O.drop (k+1)).map eStrs:=by
 rw [<- u6k,List.set_append_right _ _ (by rw [u4k];omega),u4k,show k-min k W.length=0 by omega,u4n (by omega),List.set_cons_zero,u3a hk,u4f];rfl
theorem v2s {W O:List (List Str)} {k:Nat} (hk:k<O.length) (hl:W.length=O.length):((W.take k++O.drop k).map eStrs)[k]? = some (eStrs O[k]):=by
 rw [u4q,u5f (by rw [u4k];omega),u4k,show k-min k W.length=0 by omega,u5o,u8e,u3h hk];rfl
theorem w7r {W O:List (List Str)} {k:Nat} (hk:k<=O.length) (hl:W.length=O.length):((W.take k++O.drop k).map eStrs).length=O.length:=by
 rw [u3k,u3f,u4k,u6w];omega
theorem v2c {W O:List (List Str)} {k:Nat} (hk:k<W.length) (hk':k<O.length):decide (W.take (k+1)=O.take (k+1))=(decide (W.take k=O.take k)&&decide (W[k]=O[k])):=by
 rw [u3a hk,u3a hk',<- Bool.decide_and];refine decide_eq_decide.2 ⟨fun h => ?_,fun h=>by rw [h.1,h.2]⟩;have h1:=List.append_inj' h rfl;exact ⟨h1.1,by simpa using h1.2⟩
theorem z9i {p:Pg} {I:List (List Str)} (hc:QM p=true) (h:OkI p I) {t:S} (ht:t∈VK p):(KI (bkI p I) t).length<=1000000000:=by
 have h1:=x9n t;unfold KI;split
 ·rename_i h4;have h2:=(FL hc ht h4).2;have h3:=GY z6t t.args;have h5:t.args.length*1048577<=8*1048577:=u5k _ h2;have h6:=h.len25 hc (caI (bkI p I).s.p t).toNat;have h7:(inAt (bkI p I) t).length<=25:=h6;simp only [u3f];omega
 ·omega
theorem w9a {P:Program} {N:Nat} {g:FuncId} {args:List LV} {dst:Option Nat} {s:St} {K:St->Prop} {avs:List AV} {L:List Str} {nil:Prop} (k:Nat) (hu:WB k s=true)
  (hs:SpecH P g (avs.map .p) [] (OneRow (x0k L) nil)) (ha:FrzL s.H args avs) (hn:nil->setD N s.sl dst (.p .nils) fun sl=>K ⟨sl,s.H⟩)
  (h:setD N s.sl dst (.hd k 0 L.length) fun sl=>K ⟨sl,(k,.own 9 1 (L.map .str))::s.H⟩):CallK P N g args dst s K :=
 WQ k hu hs ha hn fun q e sz es hR=>by
  obtain ⟨rfl,rfl,rfl⟩:=hR;rw [u3k];exact h
theorem v6o {H:Heap} {p:Pg} {l1 l2 l3:LV} {n:Nat} {D U I O:List (List Str)} (hg:getH H 2=some (z5s p l1 l2 l3 n)) (h1:Frz H l1 (.sl ((wysB p).map fun w => .ip w.cells))) (h2:Frz H l2 (.sl (D.map eStrs))) (h3:Frz H l3 (.sl (U.map eStrs)))
  (h4:Frz H (.hd 0 0 n) (.sl (I.map eStrs))) (h5:Frz H (.hd 1 0 n) (.sl (O.map eStrs))):Frz H (.ptr 2 0) (.ip (Book.cells ⟨sheetOf p,wysB p,D,U,I,O⟩)) :=
 Frz.ptr (off:=0) (cs:=Book.cells ⟨sheetOf p,wysB p,D,U,I,O⟩) hg rfl fun j l c hj hc=>by
  match j,hj,hc with
  | 0,hj,hc=>cases hj;cases hc;exact .p (Sub.refl _)
  | 1,hj,hc=>cases hj;cases hc;exact h1
  | 2,hj,hc=>cases hj;cases hc;exact h2
  | 3,hj,hc=>cases hj;cases hc;exact h3
  | 4,hj,hc=>cases hj;cases hc;exact h4
  | 5,hj,hc=>cases hj;cases hc;exact h5
  | j+6,hj,_=>cases hj
theorem q4f {p:Pg}:x6v p p.procs.length = .own 133 1 ((wysB p).map fun w => .ip w.cells):=by
 unfold x6v;rw [u3o (by unfold wysB;rw [u3k,u8h];exact u4j _)]
theorem q5q {p:Pg}:p.procs.length=((wysB p).map fun w=>AV.ip w.cells).length:=by
 unfold wysB;rw [u3k,u3k,u8h]
theorem z3d {L:List (List Str)} {k:Nat} (h:k<L.length) {o:List Str} (ho:L[k]=o):JC (L.take (k+1)) = .own 22 1 ((L.take k).map eStrs++[eStrs o]):=by
 unfold JC;rw [u3a h,u3t,ho];rfl
def q1t:Code->List Code
 | .seq a b=>q1t a++q1t b
 | .cond _ a b=>q1t a++q1t b
 | .block _ b=>q1t b
 | .loop b=>b::q1t b
 | _=>[]
noncomputable def u2y (k:Nat):Code:=(q1t (Tryz.f75.body.getD .skip)).getD k .skip
theorem v4b {p:Pg} (hc:QM p=true) {O D U I R:List (List Str)} (hO:OkO p O) (hDl:D.length=(sheetOf p).l.length) (hUl:U.length=(sheetOf p).l.length) (hd : ∀ d∈D,d.Pairwise ltT∧d.length<=1000000000) (hu : ∀ d∈U,d.Pairwise ltT∧d.length<=1000000000)
  (hIn:I.length=p.procs.length) (hRn:R.length=p.procs.length) (hR : ∀ (k:Nat) (h:k<p.procs.length) (h':k<R.length),R[k]=XZ (z8z p k p.procs[k] D U (O.getD k []))) {K:Exit->St->Prop}
  (hK : ∀ (m:Bool) (s:St),m=(!decide (R=I))->Le Tryz.f75.ntmps s ⟨[(1,.p (.ip p.cells)),(3,.ptr 2 0),(10,.p (.bool m))],[(5,JC U),(4,JC D),(3,x6v p p.procs.length),(2,z5s p (.hd 3 0 p.procs.length) (.hd 4 0 D.length) (.hd 5 0 U.length) p.procs.length),(1,JC O),(0,JC R)]⟩->K (.exit 12) s) :
  LoopK prog tab Tryz.f75.ntmps x4g (u2y 6) K ⟨[(1,.p (.ip p.cells)),(3,.ptr 2 0),(10,.p .ff),(147,.p (.int .i64 (p.procs.map fun f=>AV.agg f.cells).length)),(148,.p (.int .i64 0))],[(5,JC U),(4,JC D),(3,x6v p p.procs.length),(2,z5s p (.hd 3 0 p.procs.length) (.hd 4 0 D.length) (.hd 5 0 (sheetOf p).l.length) p.procs.length),(1,JC O),(0,JC I)]⟩:=by
 obtain ⟨hg,hpl,hcn⟩:=ZV hc;have hpm:(p.procs.map fun f=>AV.agg f.cells).length=p.procs.length:=u3k _;have hWl:R.length=I.length:=by omega
 have hOn:=hO.len;have hOl:p.procs.length=(O.map eStrs).length:=by rw [u3k,hO.len]
 have hKD:D.length=(D.map eStrs).length:=by rw [u3k]
 refine LoopK.inv QX (fun x:Nat×Bool=>⟨[(1,.p (.ip p.cells)),(3,.ptr 2 0),(10,.p (.bool x.2)),(147,.p (.int .i64 (p.procs.map fun f=>AV.agg f.cells).length)),(148,.p (.int .i64 x.1))],[(5,JC U),(4,JC D),(3,x6v p p.procs.length),(2,z5s p (.hd 3 0 p.procs.length) (.hd 4 0 D.length) (.hd 5 0 (sheetOf p).l.length) p.procs.length),(1,JC O),(0,JC (R.take x.1++I.drop x.1))]⟩)
  (fun x=>x.1<=p.procs.length∧x.2 = !decide (R.take x.1=I.take x.1)) (fun x=>p.procs.length-x.1) (0,false)
  (Le.mk [] (by simp) (by simp) (by simp) (.cons (.refl _) (.cons (.refl _) (.cons (.p (Sub.ff rfl)) (.cons (.refl _) (.cons (.refl _) .nil))))) (.cons rfl (.refl _) (.cons rfl (.refl _) (.cons rfl (.refl _) (.cons rfl (.refl _) (.cons rfl (.refl _) (.cons rfl (.refl _) .nil))))))) ⟨u3l _,rfl⟩ ?_
 rintro ⟨k,m⟩ ⟨hk1,hm1⟩;simp only at hk1 hm1 ⊢;rcases u3r k p.procs.length with hk2|hk2;rotate_left 1
 ·obtain rfl:k=p.procs.length:=by omega
  rw [u3o (by omega),u3o (by omega)] at hm1;rw [u3o (by omega),u4z (by omega),u4e];conv=>whnf
  repeat' (apply bD<;>intro _<;>first|omega|conv=>whnf)
  exact hK m _ hm1 (Le.mk [] (by simp) (by simp) (by simp) (.cons (.refl _) (.cons (.refl _) (.cons (.refl _) .nil))) (.cons rfl (.refl _) (.cons rfl (.refl _) (.cons rfl (.refl _) (.cons rfl (.of_eq (by rw [hUl])) (.cons rfl (.refl _) (.cons rfl (.refl _) .nil)))))))
 ·have hkj:p.procs[k]? = some p.procs[k]:=by simp
  have hpk:=BO hkj;obtain ⟨o,ho⟩ : ∃ o,O.getD k []=o:=⟨_,rfl⟩;have hOk:O[k]? = some o:=by rw [<- ho,u3m,u3h (by omega)];rfl
  have horise:o.Pairwise ltT:=by rw [<- ho];exact YU hO.rise k
  have hol25:o.length<=25:=by rw [<- ho];exact hO.len25 hc k
  have hwk:(wysB p)[k]? = some (QQ p k p.procs[k]):=by rw [z6o hk2,hpk]
  have hN:=fun x=>x1r ⟨sheetOf p,wysB p,D,U,(R).take k++I.drop k,O⟩ p hc k p.procs[k] hkj hwk o hOk horise (by omega) hDl hUl hd hu x;have hin:=x8q ⟨sheetOf p,wysB p,D,U,(R).take k++I.drop k,O⟩ p rfl hc k p.procs[k] hkj hwk o hN;have hrow:(R)[k]'(by omega)=XZ (z8z p k p.procs[k] D U o):=by
   rw [hR k hk2 (by omega),ho]
  have hol:(z8z p k p.procs[k] D U o).length<=1000000000:=by
   have h1:(z8z p k p.procs[k] D U o).length<=(p.globals++[XE]).length:=u5c _ _;rw [u3f,u4l] at h1;omega
  have hin1:SpecH prog 134 ([AV.ip (Book.cells ⟨sheetOf p,wysB p,D,U,(R).take k++I.drop k,O⟩),.int .i64 k].map .p) [] (OneRow (x0k (z8z p k p.procs[k] D U o)) False):=hin;have hup:=w7t (W:=R) (O:=I) (k:=k) (by omega) hWl;have hat:=v2s (W:=R) (O:=I) (k:=k) (by omega) hWl;have hln:=w7r (W:=R) (O:=I) (k:=k) (by omega) hWl;have hde:=v2c (W:=R) (O:=I) (k:=k) (by omega) (by omega);have hEq:=VY ((R)[k]'(by omega)) (I[k]'(by omega));rw [hrow] at hEq hup hde;have hKU:(sheetOf p).l.length=(U.map eStrs).length:=by rw [u3k];omega
  have hIl':p.procs.length=(((R).take k++I.drop k).map eStrs).length:=by rw [hln];omega
  clear hin hrow hN;generalize z8z p k p.procs[k] D U o=ol at *
  generalize hdq:decide (XZ ol=I[k])=dq at hEq hde;have hdk:decide ((R).take k=I.take k) = !m:=by rw [hm1,Bool.not_not]
  rw [hdk] at hde;cases m<;>cases dq;all_goals
   conv=>whnf
   repeat' (first|((first|refine u3d rfl ?_|refine wI ?_|refine u5q k rfl (by omega) ?_|refine u5y k 0 (eStrs I[k]) (by omega) hat ?_|refine cP hEq ?_|refine u6o k 0 (eStrs I[k]) (eStrs (XZ ol)) (by omega) hat (u4j 1) rfl ?_);conv=>whnf)|(apply bD<;>intro _<;>first|omega|conv=>whnf)|(apply bB<;>intro _<;>conv=>whnf)|(refine w9a 6 rfl hin1 (.cons (v6o rfl (.hd (u5j some q4f) q5q) (.hd rfl hKD) (.hd rfl hKU) (.hd rfl hIl') (.hd rfl hOl)) (.cons (.p (Sub.refl _)) .nil)) (fun hnil=>hnil.elim) ?_;conv=>whnf)|(refine CallK.heap [(1000,6)] 0 (u4w (u4v _) u4s) (by refine u4x (j:=6) rfl rfl ?_ ?_;exact CSub.refl _;exact u4c) (KA ol hol) rfl rfl ?_;rintro l' H' ⟨rfl,rfl⟩;conv=>whnf))
  all_goals first
   | exact absurd (show false=true by assumption) (by decide)
   | exact absurd (show true=false by assumption) (by decide)
   | exact ⟨(k+1,true),⟨hk2,by simp only;rw [hde];rfl⟩,by simp only;omega,Le.mk [] (by simp) (by simp) (by simp) (.cons (.refl _) (.cons (.refl _) (.cons (.p (Sub.tt rfl)) (.cons (.refl _) (.cons (.refl _) .nil))))) (.cons rfl (.refl _) (.cons rfl (.refl _) (.cons rfl (.refl _) (.cons rfl (.refl _) (.cons rfl (.refl _) (.cons rfl (.of_eq (u5j (Chunk.own 22 1) hup)) .nil))))))⟩
   | exact ⟨(k+1,true),⟨hk2,by simp only;rw [hde];rfl⟩,by simp only;omega,Le.mk [] (by simp) (by simp) (by simp) (.cons (.refl _) (.cons (.refl _) (.cons (.refl _) (.cons (.refl _) (.cons (.refl _) .nil))))) (.cons rfl (.refl _) (.cons rfl (.refl _) (.cons rfl (.refl _) (.cons rfl (.refl _) (.cons rfl (.refl _) (.cons rfl (.of_eq (u5j (Chunk.own 22 1) hup)) .nil))))))⟩
   | exact ⟨(k+1,false),⟨hk2,by simp only;rw [hde];rfl⟩,by simp only;omega,Le.mk [] (by simp) (by simp) (by simp) (.cons (.refl _) (.cons (.refl _) (.cons (.refl _) (.cons (.refl _) (.cons (.refl _) .nil))))) (.cons rfl (.refl _) (.cons rfl (.refl _) (.cons rfl (.refl _) (.cons rfl (.refl _) (.cons rfl (.refl _) (.cons rfl (.of_eq (u5j (Chunk.own 22 1) hup)) .nil))))))⟩
   | exact ⟨(k+1,false),⟨hk2,by simp only;rw [hde];rfl⟩,by simp only;omega,Le.mk [] (by simp) (by simp) (by simp) (.cons (.refl _) (.cons (.refl _) (.cons (.p (Sub.ff rfl)) (.cons (.refl _) (.cons (.refl _) .nil))))) (.cons rfl (.refl _) (.cons rfl (.refl _) (.cons rfl (.refl _) (.cons rfl (.refl _) (.cons rfl (.refl _) (.cons rfl (.of_eq (u5j (Chunk.own 22 1) hup)) .nil))))))⟩
theorem v7d {p:Pg} {D U O:List (List Str)} {k:Nat} (h:k<p.procs.length) (h':k<(niB p D U O).length):(niB p D U O)[k]=XZ (z8z p k p.procs[k] D U (O.getD k [])):=by
 have h2:k<((List.range p.procs.length).map (niA p D U O)).length:=h';show ((List.range p.procs.length).map (niA p D U O))[k]'h2=_;rw [u7l,List.getElem_range];unfold niA;rw [BO (u3h h)]
theorem v7c {p:Pg} {D O I:List (List Str)} : ∀ (k:Nat) (h:k<p.procs.length) (h':k<(rdI p D O I).length),(rdI p D O I)[k]=XZ (z8z p k p.procs[k] D (usB p I) (O.getD k [])):=fun _ h h'=>v7d h h'
theorem q9t (p:Pg) (hf:Fit p):SpecP prog 75 [.agg p.cells] (fun r=>(QM p=true->r = .ip (QV p).cells)∧(QM p=false->r = .nilp)):=by
 refine sB x4g func75 rfl call75 ?_;conv=>whnf
 have hM:=z1g p hf;cases hc:QM p with
 | false =>
   rw [hc] at hM;repeat' (first|(refine cP hM ?_;conv=>whnf)|(apply bN<;>intro _<;>conv=>whnf))
   all_goals first
    | contradiction
    | exact ⟨_,.p (Sub.refl _),fun h=>(by cases h),fun _=>rfl⟩
 | true =>
   rw [hc] at hM;obtain ⟨hg,hpl,hcn⟩:=ZV hc;have hpm:(p.procs.map fun f=>AV.agg f.cells).length=p.procs.length:=u3k _;have hFl:=MF p (by omega) (by omega);repeat' (first|(refine cP hM ?_;conv=>whnf)|(apply bN<;>intro _<;>conv=>whnf))
   all_goals try contradiction
   refine JQ ⟨[(1,.p (.ip p.cells)),(3,.ptr 2 0)],[(3,x6v p 0),(2,z5s p (.hd 3 0 0) (.p .nils) (.p .nils) p.procs.length),(1,JC (List.replicate p.procs.length [])),(0,JC (List.replicate p.procs.length []))]⟩ ?_ ?_
   ·refine DrawK.of QX mixed (.cons 0 false (.cons 2 false (.cons 3 false (.cons 4 false (.cons 6 false (.cons 7 false (.cons 8 false (.fork3 1 (.fork 5 (.cons 9 true (.cons 10 true (.cons 11 true (.cons 12 true .nil)))) 9 (.cons 5 true (.cons 10 true (.cons 11 true (.cons 12 true .nil))))) 5 (.fork 1 (.cons 9 true (.cons 10 true (.cons 11 true (.cons 12 true .nil)))) 9 (.cons 1 true (.cons 10 true (.cons 11 true (.cons 12 true .nil))))) 9 (.fork 1 (.cons 5 true (.cons 10 true (.cons 11 true (.cons 12 true .nil)))) 5 (.cons 1 true (.cons 10 true (.cons 11 true (.cons 12 true .nil))))))))))))) (by kernel_rfl) ?_;conv=>whnf
    repeat' (first|((first|(refine iM fun _=>?_)|refine u3d rfl ?_|refine aR ?_|refine cP hFl ?_|refine MkK.mk p.procs.length (by rw [hpm]) (by show 24*_<=140737488355328;omega) (by unfold maxLen;omega) ?_);conv=>whnf)|(refine u3d ?_ ?_<;>conv=>whnf))
    all_goals first
     | exact v7f
     | exact v9l
   conv=>whnf
   repeat' (refine iM fun _=>?_;conv=>whnf)
   have hnW:(wysB p).length=p.procs.length:=by unfold wysB;rw [u3k,u8h]
   refine LoopK.inv QX (fun k:Nat=>⟨[(1,.p (.ip p.cells)),(3,.ptr 2 0),(32,.p (.int .i64 (p.procs.map fun f=>AV.agg f.cells).length)),(33,.p (.int .i64 k))],[(3,x6v p k),(2,z5s p (.hd 3 0 k) (.p .nils) (.p .nils) p.procs.length),(1,JC (List.replicate p.procs.length [])),(0,JC (List.replicate p.procs.length []))]⟩) (fun k=>k<=p.procs.length) (fun k=>p.procs.length-k) 0 (Le.of_eq rfl) (u3l _) ?_;intro k hk;rcases u3r k p.procs.length with hk2|hk2
   ·have hkj:p.procs[k]? = some p.procs[k]:=by simp
    obtain ⟨w1,w2,w3⟩:=NU hc hkj;have hWn:=v5m p k p.procs[k] hkj (by omega) w1 w3;have hwl:(((wysB p).take k).map fun w=>AV.ip w.cells).length=k:=by rw [u3k,u4k,hnW];omega
    have hst:x6v p (k+1) = .own 133 1 ((((wysB p).take k).map fun w=>AV.ip w.cells)++[.ip (QQ p k p.procs[k]).cells]):=by
     unfold x6v;rw [u3a (by rw [hnW];exact hk2),u3t];have e:(wysB p)[k]'(by rw [hnW];exact hk2)=QQ p k p.procs[k]:=by
      have h1:=z6o hk2;rw [u3h (by rw [hnW];exact hk2),BO hkj] at h1;exact u6y h1
     rw [e];rfl
    conv=>whnf
    repeat' (first|((first|refine dA ?_|refine u3d rfl ?_|refine aD ?_|refine bP ?_|refine wI ?_|refine cP hWn ?_|refine u6q hwl.symm rfl (by show (k+1)*8<=140737488355328;omega) (by show k+1<=9223372036854775807;omega) (fun x hx=>by rcases u3b.1 hx with rfl;exact ⟨rfl,rfl⟩) ?_);conv=>whnf)|(apply bD<;>intro _<;>first|omega|conv=>whnf)|(refine u3d ?_ ?_<;>conv=>whnf))
    all_goals first
     | exact ⟨k+1,hk2,by omega,Le.of_eq (by rw [hst];rfl)⟩
   ·obtain rfl:k=p.procs.length:=by omega
    conv=>whnf
    repeat' (apply bD<;>intro _<;>first|omega|conv=>whnf)
    refine LoopK.inv QX (fun x:Bool×List (List Str)×List (List Str)=>⟨[(1,.p (.ip p.cells)),(3,.ptr 2 0),(5,.p (.bool x.1))],[(4,JC x.2.1),(3,x6v p p.procs.length),(2,z5s p (.hd 3 0 p.procs.length) (.hd 4 0 x.2.1.length) (.p .nils) p.procs.length),(1,JC x.2.2),(0,JC (List.replicate p.procs.length []))]⟩)
     (fun x=>(∃ r,x.2.2=itO p r)∧(x.1=false->rdO p x.2.2=x.2.2∧x.2.1=dfB p x.2.2)) (fun x=>2*(400-tot x.2.2)+x.1.toNat) (true,[],List.replicate p.procs.length [])
     (Le.mk [(4,JC [])] (by simp [Chunk.new0,JC];rfl) (by simp) (by simp) (.cons (.refl _) (.cons (.refl _) (.cons (.p (Sub.tt rfl)) .nil))) (.new u3g (.cons rfl (.refl _) (.cons rfl (.obj (.cons (.refl _) (.cons (.refl _) (.cons (.nil u3g) (.cons (.refl _) (.cons (.refl _) (.cons (.refl _) .nil))))))) (.cons rfl (.refl _) (.cons rfl (.refl _) .nil)))))) ⟨⟨0,rfl⟩,fun h=>by cases h⟩ ?_
    rintro ⟨m,D,O⟩ ⟨⟨r,hr⟩,hm⟩;simp only at hr hm ⊢;have hO:=x2z p r;rw [<- hr] at hO;cases m with
    | false =>
      obtain ⟨hf1,hf2⟩:=hm rfl;conv=>whnf
      repeat' (refine Br.ff ?_;conv=>whnf)
      subst hf2;have hfixO:=hf1;clear hm hf1;have hDl:=z5w p O;have hd : ∀ d∈dfB p O,d.Pairwise ltT∧d.length<=1000000000:=fun d hd=>by
       obtain ⟨it,hi,rfl⟩:=u3s.1 hd;have h1:=NA (YI (bkO p O) it.s);have h2:=q3h hc hO (t:=it.s) (by rw [<- BK];exact u3s.2 ⟨_,hi,rfl⟩);exact ⟨WN _,by omega⟩
      have hOn:=hO.len;obtain ⟨D,hD⟩ : ∃ D,dfB p O=D:=⟨_,rfl⟩;rw [hD] at hDl hd ⊢;have hBk : ∀ I,(∃ r,I=itI p D O r)->rdI p D O I=I->QV p=⟨sheetOf p,wysB p,D,usB p I,I,O⟩:=fun I h1 h2=>by
       have hB:BookR p ⟨sheetOf p,wysB p,D,usB p I,I,O⟩:=⟨rfl,rfl,⟨r,hr⟩,hfixO,hD.symm,h1,h2,rfl⟩;exact hB.eq.symm
      refine LoopK.inv QX (fun x:Bool×List (List Str)×List (List Str)=>⟨[(1,.p (.ip p.cells)),(3,.ptr 2 0),(10,.p (.bool x.1))],[(5,JC x.2.1),(4,JC D),(3,x6v p p.procs.length),(2,z5s p (.hd 3 0 p.procs.length) (.hd 4 0 D.length) (.hd 5 0 x.2.1.length) p.procs.length),(1,JC O),(0,JC x.2.2)]⟩)
       (fun x=>(∃ r,x.2.2=itI p D O r)∧(x.1=false->rdI p D O x.2.2=x.2.2∧x.2.1=usB p x.2.2)) (fun x=>2*(400-tot x.2.2)+x.1.toNat) (true,[],List.replicate p.procs.length [])
       (Le.mk [(5,JC [])] (by simp [Chunk.new0,JC];rfl) (by simp) (by simp) (.cons (.refl _) (.cons (.refl _) (.cons (.p (Sub.tt rfl)) .nil))) (.new u3g (.cons rfl (.refl _) (.cons rfl (.refl _) (.cons rfl (.obj (.cons (.refl _) (.cons (.refl _) (.cons (.refl _) (.cons (.nil u3g) (.cons (.refl _) (.cons (.refl _) .nil))))))) (.cons rfl (.refl _) (.cons rfl (.refl _) .nil))))))) ⟨⟨0,rfl⟩,fun h=>by cases h⟩ ?_
      rintro ⟨m,U,I⟩ ⟨⟨q,hq⟩,hm⟩;simp only at hq hm ⊢;have hI:=x2x p D O q;rw [<- hq] at hI;have hOl:p.procs.length=(O.map eStrs).length:=by rw [u3k,hO.len]
      have hKD:D.length=(D.map eStrs).length:=by rw [u3k]
      cases m with
      | false =>
        obtain ⟨hf1,rfl⟩:=hm rfl;have hbk:=hBk I ⟨q,hq⟩ hf1;have hIl:p.procs.length=(I.map eStrs).length:=by rw [u3k,hI.len]
        have hKU:(usB p I).length=((usB p I).map eStrs).length:=by rw [u3k]
        conv=>whnf
        repeat' (refine Br.ff ?_;conv=>whnf)
        all_goals first
         | exact ⟨_,v6o rfl (.hd (u5j some q4f) q5q) (.hd rfl hKD) (.hd rfl hKU) (.hd rfl hIl) (.hd rfl hOl),fun _=>by rw [hbk],fun h=>by cases h⟩
      | true =>
        have hLl:((sheetOf p).l.map fun i=>AV.agg i.cells).length=(sheetOf p).l.length:=u3k _;obtain ⟨_,_,_,hsl,_⟩:=QJ p;have hUl:(usB p I).length=(sheetOf p).l.length:=u3k _;have hIl:p.procs.length=(I.map eStrs).length:=by rw [u3k,hI.len]
        conv=>whnf
        repeat' ((first|(refine iM fun _=>?_)|refine u3d rfl ?_|refine Br.tt ?_);conv=>whnf)
        refine LoopK.inv QX (fun k:Nat=>⟨[(1,.p (.ip p.cells)),(3,.ptr 2 0),(10,.p .ff),(124,.p (YW (sheetOf p).l)),(125,.p (.int .i64 ((sheetOf p).l.map fun i=>AV.agg i.cells).length)),(126,.p (.int .i64 k))],[(5,JC ((usB p I).take k)),(4,JC D),(3,x6v p p.procs.length),(2,z5s p (.hd 3 0 p.procs.length) (.hd 4 0 D.length) (.hd 5 0 k) p.procs.length),(1,JC O),(0,JC I)]⟩) (fun k=>k<=(sheetOf p).l.length) (fun k=>(sheetOf p).l.length-k) 0
         (Le.trans (s':=⟨[(1,.p (.ip p.cells)),(3,.ptr 2 0),(10,.p .ff),(124,.p (YW (sheetOf p).l)),(125,.p (.int .i64 ((sheetOf p).l.map fun i=>AV.agg i.cells).length)),(126,.p (.int .i64 (0:Nat)))],[(4,JC D),(3,x6v p p.procs.length),(2,z5s p (.hd 3 0 p.procs.length) (.hd 4 0 D.length) (.p .nils) p.procs.length),(1,JC O),(0,JC I)]⟩) (lE) (Le.mk [(5,JC [])] (by simp [Chunk.new0,JC];rfl) (by simp) (by simp) (.cons (.refl _) (.cons (.refl _) (.cons (.refl _) (.cons (.refl _) (.cons (.refl _) (.cons (.refl _) .nil)))))) (.new u3g (.cons rfl (.refl _) (.cons rfl (.refl _) (.cons rfl (.obj (.cons (.refl _) (.cons (.refl _) (.cons (.refl _) (.cons (.nil u3g) (.cons (.refl _) (.cons (.refl _) .nil))))))) (.cons rfl (.refl _) (.cons rfl (.refl _) .nil)))))))) (u3l _) ?_
        intro k hk;rcases u3r k (sheetOf p).l.length with hk2|hk2;rotate_left 1
        ·obtain rfl:k=(sheetOf p).l.length:=by omega
         have hWl:(rdI p D O I).length=I.length:=by rw [hI.len];unfold rdI niB;rw [u3k,u8h]
         have hIn:=hI.len;rw [show (usB p I).take (sheetOf p).l.length=usB p I from u3o (by omega)];have hu : ∀ d∈usB p I,d.Pairwise ltT∧d.length<=1000000000:=fun d hd=>by
          obtain ⟨it,hi,rfl⟩:=u3s.1 hd;have h1:=NA (KI (bkI p I) it.s);have h2:=z9i hc hI (t:=it.s) (by rw [<- BK];exact u3s.2 ⟨_,hi,rfl⟩);exact ⟨WN _,by omega⟩
         conv=>whnf
         repeat' (first|(refine iM fun _=>?_;conv=>whnf)|(apply bD<;>intro _<;>first|omega|conv=>whnf))
         have hW:rdI p D O I=itI p D O (q+1):=by rw [hq];rfl
         refine v4b hc hO hDl hUl hd hu hIn (hWl.trans hIn) v7c fun m s hm1 hle => ?_;conv=>whnf
         refine ⟨(m,usB p I,rdI p D O I),⟨⟨q+1,hW⟩,fun h => ?_⟩,?_,hle⟩
         ·simp only at h ⊢;rw [h] at hm1;have h1:rdI p D O I=I:=by simpa using hm1
          rw [h1];exact ⟨h1,rfl⟩
         ·simp only;have hOW:tot (rdI p D O I)<=400:=(x5i p D (usB p I) O).tot hc;cases m with
          | true =>
            have h1:rdI p D O I≠I:=by simpa using hm1
            have h2:=z8u hc (D:=D) (O:=O) (k:=q) (by rw [<- hW,<- hq];exact h1);rw [<- hW,<- hq] at h2;simp only [Bool.toNat_true];omega
          | false =>
            have h1:rdI p D O I=I:=by simpa using hm1
            rw [h1];simp only [Bool.toNat_true,Bool.toNat_false];omega
        have hmem:(sheetOf p).l[k].s∈VK p:=by rw [<- BK];exact u3s.2 ⟨_,u3i hk2,rfl⟩
        have hKl:k=(((usB p I).take k).map eStrs).length:=by rw [u3k,u4k];omega
        have hd0:=x3o ⟨sheetOf p,wysB p,D,(usB p I).take k,I,O⟩ (sheetOf p).l[k].s (fun h4=>hI.use hc rfl rfl hmem h4);rw [w7s (p:=p) (I:=I) rfl rfl] at hd0;have hd1:SpecH prog 133 ([AV.ip (Book.cells ⟨sheetOf p,wysB p,D,(usB p I).take k,I,O⟩),.agg (sheetOf p).l[k].s.cells].map .p) [] (OneRow (x0k (KI (bkI p I) (sheetOf p).l[k].s)) (KI (bkI p I) (sheetOf p).l[k].s=[])):=hd0;have hdl:=z9i hc hI hmem;have hst:=z3d (L:=usB p I) (k:=k) (by omega) (o:=XZ (KI (bkI p I) (sheetOf p).l[k].s)) (by unfold usB;rw [u7l]);generalize hds:KI (bkI p I) (sheetOf p).l[k].s=ds at *
        clear hd0;conv=>whnf
        repeat' (first|((first|refine dA ?_|refine u3d rfl ?_|refine aD ?_|refine bP ?_|(refine iA fun _=>?_)|refine wI ?_|refine u6q hKl rfl (by show (k+1)*24<=140737488355328;omega) (by show k+1<=9223372036854775807;omega) (fun x hx=>by rcases u3b.1 hx with rfl;exact ⟨rfl,rfl⟩) ?_);conv=>whnf)|(apply bD<;>intro _<;>first|omega|conv=>whnf)|(refine w9a 6 rfl hd1 (.cons (v6o rfl (.hd (u5j some q4f) q5q) (.hd rfl hKD) (.hd rfl hKl) (.hd rfl hIl) (.hd rfl hOl)) (.cons (.p (Sub.refl _)) .nil)) (fun hnil => ?_) ?_<;>conv=>whnf)|(refine CallK.nil 6 9 1 rfl (.row .nil) ?_;refine CallK.heap [(1000,6)] 0 (u4w (u4v _) u4s) (by refine u4x (j:=6) rfl rfl ?_ ?_;exact CSub.refl _;exact u4c) (KA [] (by simp)) rfl rfl ?_;rintro l' H' ⟨rfl,rfl⟩;conv=>whnf)|(refine CallK.heap [(1000,6)] 0 (u4w (u4v _) u4s) (by refine u4x (j:=6) rfl rfl ?_ ?_;exact CSub.refl _;exact u4c) (KA ds (by omega)) rfl rfl ?_;rintro l' H' ⟨rfl,rfl⟩;conv=>whnf)|(refine u3d ?_ ?_<;>conv=>whnf))
        all_goals first
         | exact ⟨k+1,hk2,by omega,Le.of_eq (by rw [hst,hnil];rfl)⟩
         | exact ⟨k+1,hk2,by omega,Le.of_eq (by rw [hst];rfl)⟩
    | true =>
      have hLl:((sheetOf p).l.map fun i=>AV.agg i.cells).length=(sheetOf p).l.length:=u3k _;obtain ⟨_,_,_,hsl,_⟩:=QJ p;conv=>whnf
      repeat' ((first|(refine iM fun _=>?_)|refine u3d rfl ?_|refine Br.tt ?_);conv=>whnf)
      refine LoopK.inv QX (fun k:Nat=>⟨[(1,.p (.ip p.cells)),(3,.ptr 2 0),(5,.p .ff),(62,.p (YW (sheetOf p).l)),(63,.p (.int .i64 ((sheetOf p).l.map fun i=>AV.agg i.cells).length)),(64,.p (.int .i64 k))],[(4,JC ((dfB p O).take k)),(3,x6v p p.procs.length),(2,z5s p (.hd 3 0 p.procs.length) (.hd 4 0 k) (.p .nils) p.procs.length),(1,JC O),(0,JC (List.replicate p.procs.length []))]⟩) (fun k=>k<=(sheetOf p).l.length) (fun k=>(sheetOf p).l.length-k) 0
       (Le.trans (s':=⟨[(1,.p (.ip p.cells)),(3,.ptr 2 0),(5,.p .ff),(62,.p (YW (sheetOf p).l)),(63,.p (.int .i64 ((sheetOf p).l.map fun i=>AV.agg i.cells).length)),(64,.p (.int .i64 (0:Nat)))],[(3,x6v p p.procs.length),(2,z5s p (.hd 3 0 p.procs.length) (.p .nils) (.p .nils) p.procs.length),(1,JC O),(0,JC (List.replicate p.procs.length []))]⟩) (lE) (Le.mk [(4,JC [])] (by simp [Chunk.new0,JC];rfl) (by simp) (by simp) (.cons (.refl _) (.cons (.refl _) (.cons (.refl _) (.cons (.refl _) (.cons (.refl _) (.cons (.refl _) .nil)))))) (.new u3g (.cons rfl (.refl _) (.cons rfl (.obj (.cons (.refl _) (.cons (.refl _) (.cons (.nil u3g) (.cons (.refl _) (.cons (.refl _) (.cons (.refl _) .nil))))))) (.cons rfl (.refl _) (.cons rfl (.refl _) .nil))))))) (u3l _) ?_
      intro k hk;rcases u3r k (sheetOf p).l.length with hk2|hk2;rotate_left 1
      ·obtain rfl:k=(sheetOf p).l.length:=by omega
       have hDl:=z5w p O;have hWl:(rdO p O).length=O.length:=by rw [hO.len];unfold rdO otB;rw [u3k,u8h]
       have hOn:=hO.len;rw [show (dfB p O).take (sheetOf p).l.length=dfB p O from u3o (by omega)];have hd : ∀ d∈dfB p O,d.length<=1000:=fun d hd=>by
        obtain ⟨it,hi,rfl⟩:=u3s.1 hd;have h1:=NA (YI (bkO p O) it.s);have h2:=q3h hc hO (t:=it.s) (by rw [<- BK];exact u3s.2 ⟨_,hi,rfl⟩);omega
       conv=>whnf
       repeat' (first|(refine iM fun _=>?_;conv=>whnf)|(apply bD<;>intro _<;>first|omega|conv=>whnf))
       refine LoopK.inv QX (fun x:Nat×Bool=>⟨[(1,.p (.ip p.cells)),(3,.ptr 2 0),(5,.p (.bool x.2)),(85,.p (.int .i64 (p.procs.map fun f=>AV.agg f.cells).length)),(86,.p (.int .i64 x.1))],[(4,JC (dfB p O)),(3,x6v p p.procs.length),(2,z5s p (.hd 3 0 p.procs.length) (.hd 4 0 (sheetOf p).l.length) (.p .nils) p.procs.length),(1,JC ((rdO p O).take x.1++O.drop x.1)),(0,JC (List.replicate p.procs.length []))]⟩)
        (fun x=>x.1<=p.procs.length∧x.2 = !decide ((rdO p O).take x.1=O.take x.1)) (fun x=>p.procs.length-x.1) (0,false)
        (Le.mk [] (by simp) (by simp) (by simp) (.cons (.refl _) (.cons (.refl _) (.cons (.p (Sub.ff rfl)) (.cons (.refl _) (.cons (.refl _) .nil))))) (.cons rfl (.refl _) (.cons rfl (.refl _) (.cons rfl (.refl _) (.cons rfl (.refl _) (.cons rfl (.refl _) .nil)))))) ⟨u3l _,rfl⟩ ?_
       rintro ⟨k,m⟩ ⟨hk1,hm1⟩;simp only at hk1 hm1 ⊢;rcases u3r k p.procs.length with hk2|hk2;rotate_left 1
       ·obtain rfl:k=p.procs.length:=by omega
        rw [u3o (by omega),u3o (by omega)] at hm1;rw [u3o (by omega),u4z (by omega),u4e];have hW:rdO p O=itO p (r+1):=by rw [hr];rfl
        conv=>whnf
        repeat' (apply bD<;>intro _<;>first|omega|conv=>whnf)
        refine ⟨(m,dfB p O,rdO p O),⟨⟨r+1,hW⟩,fun h => ?_⟩,?_,Le.mk [] (by simp) (by simp) (by simp) (.cons (.refl _) (.cons (.refl _) (.cons (.refl _) .nil))) (.cons rfl (.refl _) (.cons rfl (.refl _) (.cons rfl (.of_eq (by rw [hDl])) (.cons rfl (.refl _) (.cons rfl (.refl _) .nil)))))⟩
        ·simp only at h ⊢;rw [h] at hm1;have h1:rdO p O=O:=by simpa using hm1
         rw [h1];exact ⟨h1,rfl⟩
        ·simp only;have hOW:=(x5o p (dfB p O)).tot hc;have hOW:tot (rdO p O)<=400:=hOW;cases m with
         | true =>
           have h1:rdO p O≠O:=by simpa using hm1
           have h2:=z8y (p:=p) (k:=r) (by rw [<- hW,<- hr];exact h1);rw [<- hW,<- hr] at h2;simp only [Bool.toNat_true];omega
         | false =>
           have h1:rdO p O=O:=by simpa using hm1
           rw [h1];simp only [Bool.toNat_true,Bool.toNat_false];omega
       have hkj:p.procs[k]? = some p.procs[k]:=by simp
       have hpk:=BO hkj;have hWk:wysB p=(wysB p):=rfl;have hout:=x3i ⟨sheetOf p,wysB p,dfB p O,[],List.replicate p.procs.length [],(rdO p O).take k++O.drop k⟩ p rfl hc k p.procs[k] hkj (by show (wysB p)[k]? = _;rw [z6o hk2,hpk]) hDl hd;have hrow:(rdO p O)[k]'(by omega)=XZ (z4y p k p.procs[k] (dfB p O) (itsOf p k p.procs[k])):=by
        unfold rdO otB;rw [u7l,List.getElem_range];unfold otA;rw [hpk]
       have hol:(z4y p k p.procs[k] (dfB p O) (itsOf p k p.procs[k])).length<=1000000000:=by
        have h1:=z8l (p:=p) (i:=k) (f:=p.procs[k]) hd (itsOf p k p.procs[k]);have h2:(itsOf p k p.procs[k]).length<=200:=by
         obtain ⟨_,_,_,_,hsp⟩:=QJ p;obtain ⟨_,_,h3,h4⟩:=hsp k _ hkj;have h5:=u5j List.length h4;rw [u6w,u4k] at h5;have e1:itL (k:Nat) 0 (-1) 0 (QN p.procs k) p.procs[k].body=itsOf p k p.procs[k]:=rfl;rw [e1] at h5;omega
        have h3:(itsOf p k p.procs[k]).length*1000<=200*1000:=u5k _ h2;omega
       have hout1:SpecH prog 131 ([AV.ip (Book.cells ⟨sheetOf p,wysB p,dfB p O,[],List.replicate p.procs.length [],(rdO p O).take k++O.drop k⟩),.int .i64 k].map .p) [] (OneRow (x0k (z4y p k p.procs[k] (dfB p O) (itsOf p k p.procs[k]))) False):=hout;have hup:=w7t (W:=rdO p O) (O:=O) (k:=k) (by omega) hWl;have hat:=v2s (W:=rdO p O) (O:=O) (k:=k) (by omega) hWl;have hln:=w7r (W:=rdO p O) (O:=O) (k:=k) (by omega) hWl;have hde:=v2c (W:=rdO p O) (O:=O) (k:=k) (by omega) (by omega);have hEq:=VY ((rdO p O)[k]'(by omega)) (O[k]'(by omega));rw [hrow] at hEq hup hde;have hKl:(sheetOf p).l.length=((dfB p O).map eStrs).length:=by rw [u3k];omega
       have hOl:p.procs.length=(((rdO p O).take k++O.drop k).map eStrs).length:=by rw [hln];omega
       have hIl:p.procs.length=((List.replicate p.procs.length ([]:List Str)).map eStrs).length:=by rw [u3k,u5m]
       clear hout hrow;generalize z4y p k p.procs[k] (dfB p O) (itsOf p k p.procs[k])=ol at *
       generalize hdq:decide (XZ ol=O[k])=dq at hEq hde;have hdk:decide ((rdO p O).take k=O.take k) = !m:=by rw [hm1,Bool.not_not]
       rw [hdk] at hde;cases m<;>cases dq;all_goals
        conv=>whnf
        repeat' (first|((first|refine u3d rfl ?_|refine wI ?_|refine u5q k rfl (by omega) ?_|refine u5y k 0 (eStrs O[k]) (by omega) hat ?_|refine cP hEq ?_|refine u6o k 0 (eStrs O[k]) (eStrs (XZ ol)) (by omega) hat (u4j 1) rfl ?_);conv=>whnf)|(apply bD<;>intro _<;>first|omega|conv=>whnf)|(apply bB<;>intro _<;>conv=>whnf)|(refine w9a 5 rfl hout1 (.cons (v6o rfl (.hd (u5j some q4f) q5q) (.hd rfl hKl) (.p Sub.nils) (.hd rfl hIl) (.hd rfl hOl)) (.cons (.p (Sub.refl _)) .nil)) (fun hnil=>hnil.elim) ?_;conv=>whnf)|(refine CallK.heap [(1000,5)] 0 (u4w (u4v _) u4s) (by refine u4x (j:=5) rfl rfl ?_ ?_;exact CSub.refl _;exact u4c) (KA ol hol) rfl rfl ?_;rintro l' H' ⟨rfl,rfl⟩;conv=>whnf))
       all_goals first
        | exact absurd (show false=true by assumption) (by decide)
        | exact absurd (show true=false by assumption) (by decide)
        | exact ⟨(k+1,true),⟨hk2,by simp only;rw [hde];rfl⟩,by simp only;omega,Le.mk [] (by simp) (by simp) (by simp) (.cons (.refl _) (.cons (.refl _) (.cons (.p (Sub.tt rfl)) (.cons (.refl _) (.cons (.refl _) .nil))))) (.cons rfl (.refl _) (.cons rfl (.refl _) (.cons rfl (.refl _) (.cons rfl (.of_eq (u5j (Chunk.own 22 1) hup)) (.cons rfl (.refl _) .nil)))))⟩
        | exact ⟨(k+1,true),⟨hk2,by simp only;rw [hde];rfl⟩,by simp only;omega,Le.mk [] (by simp) (by simp) (by simp) (.cons (.refl _) (.cons (.refl _) (.cons (.refl _) (.cons (.refl _) (.cons (.refl _) .nil))))) (.cons rfl (.refl _) (.cons rfl (.refl _) (.cons rfl (.refl _) (.cons rfl (.of_eq (u5j (Chunk.own 22 1) hup)) (.cons rfl (.refl _) .nil)))))⟩
        | exact ⟨(k+1,false),⟨hk2,by simp only;rw [hde];rfl⟩,by simp only;omega,Le.mk [] (by simp) (by simp) (by simp) (.cons (.refl _) (.cons (.refl _) (.cons (.refl _) (.cons (.refl _) (.cons (.refl _) .nil))))) (.cons rfl (.refl _) (.cons rfl (.refl _) (.cons rfl (.refl _) (.cons rfl (.of_eq (u5j (Chunk.own 22 1) hup)) (.cons rfl (.refl _) .nil)))))⟩
        | exact ⟨(k+1,false),⟨hk2,by simp only;rw [hde];rfl⟩,by simp only;omega,Le.mk [] (by simp) (by simp) (by simp) (.cons (.refl _) (.cons (.refl _) (.cons (.p (Sub.ff rfl)) (.cons (.refl _) (.cons (.refl _) .nil))))) (.cons rfl (.refl _) (.cons rfl (.refl _) (.cons rfl (.refl _) (.cons rfl (.of_eq (u5j (Chunk.own 22 1) hup)) (.cons rfl (.refl _) .nil)))))⟩
      have hmem:(sheetOf p).l[k].s∈VK p:=by rw [<- BK];exact u3s.2 ⟨_,u3i hk2,rfl⟩
      have hDl:=z5w p O;have hKl:k=(((dfB p O).take k).map eStrs).length:=by rw [u3k,u4k];omega
      have hOl:p.procs.length=(O.map eStrs).length:=by rw [u3k,hO.len]
      have hIl:p.procs.length=((List.replicate p.procs.length ([]:List Str)).map eStrs).length:=by rw [u3k,u5m]
      have hd0:=x3e ⟨sheetOf p,wysB p,(dfB p O).take k,[],List.replicate p.procs.length [],O⟩ (sheetOf p).l[k].s (fun h4=>hO.call hc rfl rfl hmem h4);rw [w3m rfl rfl] at hd0;have hd1:SpecH prog 130 ([AV.ip (Book.cells ⟨sheetOf p,wysB p,(dfB p O).take k,[],List.replicate p.procs.length [],O⟩),.agg (sheetOf p).l[k].s.cells].map .p) [] (OneRow (x0k (YI (bkO p O) (sheetOf p).l[k].s)) (YI (bkO p O) (sheetOf p).l[k].s=[])):=hd0;have hdl:=q3h hc hO hmem;have hst:=z3d (L:=dfB p O) (k:=k) (by omega) (o:=XZ (YI (bkO p O) (sheetOf p).l[k].s)) (by unfold dfB;rw [u7l]);generalize hds:YI (bkO p O) (sheetOf p).l[k].s=ds at *
      clear hd0;conv=>whnf
      repeat' (first|((first|refine dA ?_|refine u3d rfl ?_|refine aD ?_|refine bP ?_|(refine iA fun _=>?_)|refine wI ?_|refine u6q hKl rfl (by show (k+1)*24<=140737488355328;omega) (by show k+1<=9223372036854775807;omega) (fun x hx=>by rcases u3b.1 hx with rfl;exact ⟨rfl,rfl⟩) ?_);conv=>whnf)|(apply bD<;>intro _<;>first|omega|conv=>whnf)|(refine w9a 5 rfl hd1 (.cons (v6o rfl (.hd (u5j some q4f) q5q) (.hd rfl hKl) (.p Sub.nils) (.hd rfl hIl) (.hd rfl hOl)) (.cons (.p (Sub.refl _)) .nil)) (fun hnil => ?_) ?_<;>conv=>whnf)|(refine CallK.nil 5 9 1 rfl (.row .nil) ?_;refine CallK.heap [(1000,5)] 0 (u4w (u4v _) u4s) (by refine u4x (j:=5) rfl rfl ?_ ?_;exact CSub.refl _;exact u4c) (KA [] (by simp)) rfl rfl ?_;rintro l' H' ⟨rfl,rfl⟩;conv=>whnf)|(refine CallK.heap [(1000,5)] 0 (u4w (u4v _) u4s) (by refine u4x (j:=5) rfl rfl ?_ ?_;exact CSub.refl _;exact u4c) (KA ds (by omega)) rfl rfl ?_;rintro l' H' ⟨rfl,rfl⟩;conv=>whnf)|(refine u3d ?_ ?_<;>conv=>whnf))
      all_goals first
       | exact ⟨k+1,hk2,by omega,Le.of_eq (by rw [hst,hnil];rfl)⟩
       | exact ⟨k+1,hk2,by omega,Le.of_eq (by rw [hst];rfl)⟩
def LI (p:Pg) (n:Str):Int:=q3l (fun f=>f.name==n) p.procs
noncomputable def NR (p:Pg) (n:Str):List Str:=if QM p=true∧0<=LI p n then (QV p).outs.getD (LI p n).toNat [] else []
noncomputable def z2f (p:Pg) (n:Str):List Str:=if QM p=true∧0<=LI p n then (QV p).ins.getD (LI p n).toNat [] else []
noncomputable def LS (p:Pg) (id:Int):List Str:=if QM p=true∧1<=id∧id<=(sheetOf p).l.length then (QV p).defs.getD (id-1).toNat [] else []
noncomputable def q0z (p:Pg) (id:Int):List Str:=if QM p=true∧1<=id∧id<=(sheetOf p).l.length then (QV p).uses.getD (id-1).toNat [] else []
theorem x8s {p:Pg} {n:Str} (h:0<=LI p n):(LI p n).toNat<p.procs.length:=by
 unfold LI q3l at h ⊢;cases hq:p.procs.any fun f=>f.name==n with
 | true =>
   rw [u4y];obtain ⟨x,h1,h2⟩:=u5n.1 hq;have:=List.findIdx_lt_length_of_exists (p:=fun f:Pr=>f.name==n) ⟨x,h1,h2⟩;simpa using this
 | false =>
   rw [hq,u4h] at h;omega
theorem q6o {O:List (List Str)} {k:Nat} (h:k<O.length):(O.map eStrs)[k]? = some (eStrs (O.getD k [])):=by
 rw [u4q,u3m,u3h h];rfl
theorem x5f (p:Pg) (hf:Fit p) (n:Str):SpecP prog 23 [.agg p.cells,.str n] (fun r=>r=eStrs (NR p n)):=by
 refine sB z0g func23 rfl call23 ?_;conv=>whnf
 have hB:=q9t p hf;cases hc:QM p with
 | false =>
   have e:NR p n=[]:=by unfold NR;rw [if_neg (by rw [hc];simp)]
   rw [e];have hB2:=hB.mono (R':=fun r=>r = .nilp) fun r hr=>hr.2 hc;repeat' (refine cP hB2 ?_;conv=>whnf)
   all_goals first
    | contradiction
    | exact ⟨_,.p Sub.nils,rfl⟩
 | true =>
   have hB2:=hB.mono (R':=fun r=>r = .ip (QV p).cells) fun r hr=>hr.1 hc;have hR:=GW hc;have hO:=(UF hc).1.len;have hs:(QV p).s.p=p:=by rw [hR.s];exact (QJ p).1
   have hPr:=VW (QV p).s n;rw [hs] at hPr;have hPr2:SpecP prog 76 [.ip (QV p).s.cells,.str n] (fun r=>r = .int .i64 (LI p n)):=hPr;have hlt:=fun h=>x8s (p:=p) (n:=n) h;have hg:=fun h=>q6o (O:=(QV p).outs) (k:=(LI p n).toNat) (by rw [hO];exact hlt h);have e:NR p n=if 0<=LI p n then (QV p).outs.getD (LI p n).toNat [] else []:=by
    unfold NR;by_cases h0:0<=LI p n
    ·rw [if_pos ⟨hc,h0⟩,if_pos h0]
    ·rw [if_neg (fun h=>h0 h.2),if_neg h0]
   rw [e];generalize LI p n=i at *
   generalize QV p=b at *
   by_cases h0:0<=i
   ·rw [if_pos h0];have hg:=hg h0;repeat' (first|((first|refine dA ?_|refine cP hB2 ?_|refine cP hPr2 ?_|(refine IdxK.at (k:=i.toNat) (by omega) hg rfl ?_));conv=>whnf)|(apply bD<;>intro _<;>first|omega|conv=>whnf))
    all_goals first
     | contradiction
     | exact RetK.p rfl
     | exact ⟨_,.p (Sub.refl _),rfl⟩
   ·rw [if_neg h0];repeat' (first|((first|refine cP hB2 ?_|refine cP hPr2 ?_);conv=>whnf)|(apply bD<;>intro _<;>first|omega|conv=>whnf))
    all_goals first
     | contradiction
     | exact ⟨_,.p Sub.nils,rfl⟩
theorem z2h (p:Pg) (hf:Fit p) (n:Str):SpecP prog 21 [.agg p.cells,.str n] (fun r=>r=eStrs (z2f p n)):=by
 refine sB z4l func21 rfl call21 ?_;conv=>whnf
 have hB:=q9t p hf;cases hc:QM p with
 | false =>
   have e:z2f p n=[]:=by unfold z2f;rw [if_neg (by rw [hc];simp)]
   rw [e];have hB2:=hB.mono (R':=fun r=>r = .nilp) fun r hr=>hr.2 hc;repeat' (refine cP hB2 ?_;conv=>whnf)
   all_goals first
    | contradiction
    | exact ⟨_,.p Sub.nils,rfl⟩
 | true =>
   have hB2:=hB.mono (R':=fun r=>r = .ip (QV p).cells) fun r hr=>hr.1 hc;have hR:=GW hc;have hO:=(UF hc).2.len;have hs:(QV p).s.p=p:=by rw [hR.s];exact (QJ p).1
   have hPr:=VW (QV p).s n;rw [hs] at hPr;have hPr2:SpecP prog 76 [.ip (QV p).s.cells,.str n] (fun r=>r = .int .i64 (LI p n)):=hPr;have hlt:=fun h=>x8s (p:=p) (n:=n) h;have hg:=fun h=>q6o (O:=(QV p).ins) (k:=(LI p n).toNat) (by rw [hO];exact hlt h);have e:z2f p n=if 0<=LI p n then (QV p).ins.getD (LI p n).toNat [] else []:=by
    unfold z2f;by_cases h0:0<=LI p n
    ·rw [if_pos ⟨hc,h0⟩,if_pos h0]
    ·rw [if_neg (fun h=>h0 h.2),if_neg h0]
   rw [e];generalize LI p n=i at *
   generalize QV p=b at *
   by_cases h0:0<=i
   ·rw [if_pos h0];have hg:=hg h0;repeat' (first|((first|refine dA ?_|refine cP hB2 ?_|refine cP hPr2 ?_|(refine IdxK.at (k:=i.toNat) (by omega) hg rfl ?_));conv=>whnf)|(apply bD<;>intro _<;>first|omega|conv=>whnf))
    all_goals first
     | contradiction
     | exact RetK.p rfl
     | exact ⟨_,.p (Sub.refl _),rfl⟩
   ·rw [if_neg h0];repeat' (first|((first|refine cP hB2 ?_|refine cP hPr2 ?_);conv=>whnf)|(apply bD<;>intro _<;>first|omega|conv=>whnf))
    all_goals first
     | contradiction
     | exact ⟨_,.p Sub.nils,rfl⟩
theorem x5h (p:Pg) (hf:Fit p) (id:Int):SpecP prog 27 [.agg p.cells,.int .i64 id] (fun r=>r=eStrs (LS p id)):=by
 refine sB z0k func27 rfl call27 ?_;conv=>whnf
 have hB:=q9t p hf;cases hc:QM p with
 | false =>
   have e:LS p id=[]:=by unfold LS;rw [if_neg (by rw [hc];simp)]
   rw [e];have hB2:=hB.mono (R':=fun r=>r = .nilp) fun r hr=>hr.2 hc;repeat' (refine cP hB2 ?_;conv=>whnf)
   all_goals first
    | contradiction
    | exact ⟨_,.p Sub.nils,rfl⟩
 | true =>
   have hB2:=hB.mono (R':=fun r=>r = .ip (QV p).cells) fun r hr=>hr.1 hc;have hR:=GW hc;have hD:(QV p).defs.length=(sheetOf p).l.length:=by rw [hR.defs];exact u3k _
   have hcn:=(ZV hc).2.2;obtain ⟨_,_,_,hsl,_⟩:=QJ p;have hH:SpecP prog 82 [.ip (QV p).s.cells,.int .i64 id] (fun r=>r = .bool (decide (1<=id)&&decide (id<=(sheetOf p).l.length))):=by
    have h1:=q0j (QV p).s id;rw [show (QV p).s.l=(sheetOf p).l by rw [hR.s]] at h1;exact h1
   have hg:=fun h=>q6o (O:=(QV p).defs) (k:=(id-1).toNat) h;have e:LS p id=if 1<=id∧id<=(sheetOf p).l.length then (QV p).defs.getD (id-1).toNat [] else []:=by
    unfold LS;by_cases h0:1<=id∧id<=(sheetOf p).l.length
    ·rw [if_pos ⟨hc,h0⟩,if_pos h0]
    ·rw [if_neg (fun h=>h0 h.2),if_neg h0]
   rw [e];generalize (sheetOf p).l.length=sl at *
   generalize QV p=b at *
   by_cases h0:1<=id∧id<=(sl:Int)
   ·rw [if_pos h0];rw [show (decide (1<=id)&&decide (id<=(sl:Int)))=true by simp [h0]] at hH;have hg:=hg (by omega);repeat' (first|((first|refine wI ?_|refine cP hB2 ?_|refine cP hH ?_|(refine IdxK.at (k:=(id-1).toNat) (by omega) hg rfl ?_));conv=>whnf)|(apply bN<;>intro _<;>conv=>whnf))
    all_goals first
     | contradiction
     | exact RetK.p rfl
     | exact ⟨_,.p (Sub.refl _),rfl⟩
   ·rw [if_neg h0];rw [show (decide (1<=id)&&decide (id<=(sl:Int)))=false by rw [u7m,u5a,u5a];omega] at hH;repeat' (first|((first|refine cP hB2 ?_|refine cP hH ?_);conv=>whnf)|(apply bN<;>intro _<;>conv=>whnf))
    all_goals first
     | contradiction
     | exact ⟨_,.p Sub.nils,rfl⟩
theorem x5d (p:Pg) (hf:Fit p) (id:Int):SpecP prog 28 [.agg p.cells,.int .i64 id] (fun r=>r=eStrs (q0z p id)):=by
 refine sB z0h func28 rfl call28 ?_;conv=>whnf
 have hB:=q9t p hf;cases hc:QM p with
 | false =>
   have e:q0z p id=[]:=by unfold q0z;rw [if_neg (by rw [hc];simp)]
   rw [e];have hB2:=hB.mono (R':=fun r=>r = .nilp) fun r hr=>hr.2 hc;repeat' (refine cP hB2 ?_;conv=>whnf)
   all_goals first
    | contradiction
    | exact ⟨_,.p Sub.nils,rfl⟩
 | true =>
   have hB2:=hB.mono (R':=fun r=>r = .ip (QV p).cells) fun r hr=>hr.1 hc;have hR:=GW hc;have hD:(QV p).uses.length=(sheetOf p).l.length:=by rw [hR.uses];exact u3k _
   have hcn:=(ZV hc).2.2;obtain ⟨_,_,_,hsl,_⟩:=QJ p;have hH:SpecP prog 82 [.ip (QV p).s.cells,.int .i64 id] (fun r=>r = .bool (decide (1<=id)&&decide (id<=(sheetOf p).l.length))):=by
    have h1:=q0j (QV p).s id;rw [show (QV p).s.l=(sheetOf p).l by rw [hR.s]] at h1;exact h1
   have hg:=fun h=>q6o (O:=(QV p).uses) (k:=(id-1).toNat) h;have e:q0z p id=if 1<=id∧id<=(sheetOf p).l.length then (QV p).uses.getD (id-1).toNat [] else []:=by
    unfold q0z;by_cases h0:1<=id∧id<=(sheetOf p).l.length
    ·rw [if_pos ⟨hc,h0⟩,if_pos h0]
    ·rw [if_neg (fun h=>h0 h.2),if_neg h0]
   rw [e];generalize (sheetOf p).l.length=sl at *
   generalize QV p=b at *
   by_cases h0:1<=id∧id<=(sl:Int)
   ·rw [if_pos h0];rw [show (decide (1<=id)&&decide (id<=(sl:Int)))=true by simp [h0]] at hH;have hg:=hg (by omega);repeat' (first|((first|refine wI ?_|refine cP hB2 ?_|refine cP hH ?_|(refine IdxK.at (k:=(id-1).toNat) (by omega) hg rfl ?_));conv=>whnf)|(apply bN<;>intro _<;>conv=>whnf))
    all_goals first
     | contradiction
     | exact RetK.p rfl
     | exact ⟨_,.p (Sub.refl _),rfl⟩
   ·rw [if_neg h0];rw [show (decide (1<=id)&&decide (id<=(sl:Int)))=false by rw [u7m,u5a,u5a];omega] at hH;repeat' (first|((first|refine cP hB2 ?_|refine cP hH ?_);conv=>whnf)|(apply bN<;>intro _<;>conv=>whnf))
    all_goals first
     | contradiction
     | exact ⟨_,.p Sub.nils,rfl⟩
def v5a (p:Pg):List AV:=[eStrs p.globals,.sl (p.procs.map fun f => .agg f.cells),.ff,.sl [],.sl [],.sl [],.sl [],.sl []]
def v5c (p:Pg) (I O:List (List Str)):Heap:=[(0,.obj 50 [.p (eStrs p.globals),.p (.sl (p.procs.map fun f => .agg f.cells)),.p .tt,.hd 1 0 p.procs.length,.hd 2 0 p.procs.length,.hd 3 0 p.procs.length,.hd 4 0 p.procs.length,.hd 5 0 p.procs.length]),(1,.own 22 1 (I.map eStrs)),(2,.own 22 1 (O.map eStrs)),
 (3,.own 67 1 (p.procs.map fun f=>VM (flatU f))),(4,.own 70 1 (p.procs.map fun f=>QR (WJ p f.name))),(5,.own 56 1 (p.procs.map fun f=>QL (VT p f.name)))]
def v2l (p:Pg) (j:Nat):Heap:=[(0,.obj 50 [.p (eStrs p.globals),.p (.sl (p.procs.map fun f => .agg f.cells)),.p .tt,.hd 1 0 j,.hd 2 0 j,.hd 3 0 j,.hd 4 0 j,.hd 5 0 j]),(1,.own 22 1 (List.replicate j .nils)),(2,.own 22 1 (List.replicate j .nils)),
 (3,.own 67 1 ((p.procs.take j).map fun f=>VM (flatU f))),(4,.own 70 1 ((p.procs.take j).map fun f=>QR (WJ p f.name))),(5,.own 56 1 ((p.procs.take j).map fun f=>QL (VT p f.name)))]
def v2r (p:Pg) (n1 n2 n3 n4 n5:Nat) (r1 r2 r3 r4 r5:List AV):Heap:=[(0,.obj 50 [.p (eStrs p.globals),.p (.sl (p.procs.map fun f => .agg f.cells)),.p .tt,.hd 1 0 n1,.hd 2 0 n2,.hd 3 0 n3,.hd 4 0 n4,.hd 5 0 n5]),(1,.own 22 1 r1),(2,.own 22 1 r2),
 (3,.own 67 1 r3),(4,.own 70 1 r4),(5,.own 56 1 r5)]
theorem z7b (n:Nat):ElS (List.replicate n .nils) ((List.replicate n ([]:List Str)).map eStrs):=by
 refine ⟨by simp,fun m x h => ?_⟩;rw [u6t,u4r] at h;rw [u4r];split at h
 ·cases h;rw [if_pos (by assumption)];refine ⟨_,rfl,rfl,fun j c hc => ?_⟩
  match j,hc with
  | 0,hc=>cases hc;exact ⟨_,rfl,Sub.nils⟩
 ·cases h
theorem v1u (N:Nat) (p:Pg):Le N ⟨[(3,.ptr 0 0)],v2l p p.procs.length⟩ ⟨[(3,.ptr 0 0)],v5c p (List.replicate p.procs.length []) (List.replicate p.procs.length [])⟩:=by
 unfold v2l v5c;rw [u7w];exact Le.els (.same (.els (z7b _) (.els (z7b _) (.same (.same (.same .nil))))))
theorem x7k {N i:Nat} {x:LV} {r:List (Nat×LV)} {H:Heap}:Le N ⟨(i,x)::r,H⟩ ⟨[(i,x)],H⟩:=q3w (fun k=>by
 show (bif i==k then x else .p .any)=(bif i==k then x else getS r k)∨(bif i==k then x else .p .any) = .p .any;cases i==k
 ·exact .inr rfl
 ·exact .inl rfl) (u8g _)
theorem u2v {H:Heap} {p:Pg} {k0:Nat} {e0:TypeId} (h0:getH H k0=some (.obj e0 [.p (eStrs p.globals),.p (.sl (p.procs.map fun f => .agg f.cells)),.p (.bool false),.p .nils,.p .nils,.p .nils,.p .nils,.p .nils])):Frz H (.ptr k0 0) (.ip (v5a p)) :=
 Frz.ptr (off:=0) (cs:=v5a p) h0 rfl fun j l c hj hc=>by
  match j,hj,hc with
  | 0,hj,hc=>cases hj;cases hc;exact .p (Sub.refl _)
  | 1,hj,hc=>cases hj;cases hc;exact .p (Sub.refl _)
  | 2,hj,hc=>cases hj;cases hc;exact .p (w7x false)
  | 3,hj,hc=>cases hj;cases hc;exact .p Sub.nils
  | 4,hj,hc=>cases hj;cases hc;exact .p Sub.nils
  | 5,hj,hc=>cases hj;cases hc;exact .p Sub.nils
  | 6,hj,hc=>cases hj;cases hc;exact .p Sub.nils
  | 7,hj,hc=>cases hj;cases hc;exact .p Sub.nils
  | j+8,hj,_=>cases hj
theorem YN (p:Pg) (hf:Fit p):SpecP prog 25 [.agg p.cells] (fun r=>(QM p=true->r = .ip (x9k p (QV p).ins (QV p).outs))∧(QM p=false->r = .ip (v5a p))):=by
 refine sB LX func25 rfl call25 ?_;conv=>whnf
 have hR:=YT p hf;cases hc:QM p with
 | false =>
   rw [hc] at hR;repeat' ((first|refine dA ?_|refine u3d rfl ?_|refine cP hR ?_|refine Br.tt ?_);conv=>whnf)
   refine ⟨_,u2v rfl,(fun h=>by cases h),fun _=>rfl⟩
 | true =>
   rw [hc] at hR;have hpm:(p.procs.map fun f=>AV.agg f.cells).length=p.procs.length:=u3k _;have hpl:=(ZV hc).2.1;have hm:=(QK hc).1;repeat' ((first|(refine iM fun _=>?_)|refine dA ?_|refine u3d rfl ?_|refine cP hR ?_|refine Br.ff ?_);conv=>whnf)
   all_goals first
    | contradiction
    | skip
   refine LoopK.inv QX (fun j:Nat=>⟨[(1,.p (.ip p.cells)),(3,.ptr 0 0),(18,.p (.sl (p.procs.map fun f => .agg f.cells))),(19,.p (.int .i64 (p.procs.map fun f=>AV.agg f.cells).length)),(20,.p (.int .i64 j))],v2l p j⟩) (fun j=>j<=p.procs.length) (fun j=>p.procs.length-j) 0
    (by
      exact Le.mk [(1,.own 22 1 []),(2,.own 22 1 []),(3,.own 67 1 []),(4,.own 70 1 []),(5,.own 56 1 [])] (by intro c hc;simp only [u3c,List.not_mem_nil,or_false] at hc;rcases hc with rfl|rfl|rfl|rfl|rfl<;>exact ⟨rfl,rfl⟩) (by decide) (by show (List.map _ _).Nodup;simp [v2l]) (.cons (.refl _) (.cons (.refl _) (.cons (.refl _) (.cons (.refl _) (.cons (.refl _) .nil))))) (.cons rfl (.obj (.cons (.refl _) (.cons (.refl _) (.cons (.p (q5c rfl)) (.cons (.nil (.head _)) (.cons (.nil (.tail _ (.head _))) (.cons (.nil (.tail _ (.tail _ (.head _)))) (.cons (.nil (.tail _ (.tail _ (.tail _ (.head _))))) (.cons (.nil (.tail _ (.tail _ (.tail _ (.tail _ (.head _)))))) .nil))))))))) (.new (by simp) (.new (by simp) (.new (by simp) (.new (by simp) (.new (by simp) .nil))))))) (u3l _) ?_
   intro j hj;rcases u3r j p.procs.length with hj2|hj2
   ·have hFl:=XU p.procs[j];rw [VH hm (u3i hj2)] at hFl;have hLv:=q5z p hf p.procs[j].name;have hDa:=q5x p hf p.procs[j].name;have e1:=u3a hj2;have e2 : ∀ x:AV,List.replicate (j+1) x=List.replicate j x++[x]:=fun x=>List.replicate_succ';have e3:v2l p (j+1)=[(0,.obj 50 [.p (eStrs p.globals),.p (.sl (p.procs.map fun f => .agg f.cells)),.p .tt,.hd 1 0 (j+1),.hd 2 0 (j+1),.hd 3 0 (j+1),.hd 4 0 (j+1),.hd 5 0 (j+1)]),(1,.own 22 1 (List.replicate j .nils++[.nils])),(2,.own 22 1 (List.replicate j .nils++[.nils])),
      (3,.own 67 1 (((p.procs.take j).map fun f=>VM (flatU f))++[VM (flatU p.procs[j])])),(4,.own 70 1 (((p.procs.take j).map fun f=>QR (WJ p f.name))++[QR (WJ p p.procs[j].name)])),(5,.own 56 1 (((p.procs.take j).map fun f=>QL (VT p f.name))++[QL (VT p p.procs[j].name)]))]:=by
     unfold v2l;rw [e1,e2,u3t,u3t,u3t];rfl
    have hl1:(List.replicate j AV.nils).length=j:=u5m;have hl2:((p.procs.take j).map fun f=>VM (flatU f)).length=j:=by rw [u3k,u4k];omega
    have hl3:((p.procs.take j).map fun f=>QR (WJ p f.name)).length=j:=by rw [u3k,u4k];omega
    have hl4:((p.procs.take j).map fun f=>QL (VT p f.name)).length=j:=by rw [u3k,u4k];omega
    unfold v2l;generalize List.replicate j AV.nils=r1 at *
    generalize (p.procs.take j).map (fun f=>VM (flatU f))=r2 at *
    generalize (p.procs.take j).map (fun f=>QR (WJ p f.name))=r3 at *
    generalize (p.procs.take j).map (fun f=>QL (VT p f.name))=r4 at *
    conv=>whnf
    repeat' (first|((first|refine u3d rfl ?_|(refine iA fun _=>?_));conv=>whnf)|(apply bD<;>intro _<;>first|omega|conv=>whnf))
    refine JQ ⟨[(1,.p (.ip p.cells)),(3,.ptr 0 0),(5,.p (.ip p.procs[j].cells)),(18,.p (.sl (p.procs.map fun f => .agg f.cells))),(19,.p (.int .i64 (p.procs.map fun f=>AV.agg f.cells).length)),(20,.p (.int .i64 j))],v2r p j j (j+1) j j r1 r1 (r2++[VM (flatU p.procs[j])]) r3 r4⟩ ?_ ?_
    ·refine DrawK.of QX mixed (.cons 5 true (.cons 0 false (.cons 1 false (.cons 2 false (.cons 3 false (.fork 4 (.cons 6 true (.cons 7 true (.cons 8 true (.cons 9 true (.cons 10 true (.cons 11 true .nil)))))) 6 (.alo 4 (.cons 7 true (.cons 8 true (.cons 9 true (.cons 10 true (.cons 11 true .nil)))))))))))) (by kernel_rfl) ?_;conv=>whnf
     repeat' (first|((first|refine u3d rfl ?_|refine aD ?_|refine bP ?_|refine cP hFl ?_|refine u6q (n:=j) (by omega) rfl (by show (j+1)*24<=140737488355328;omega) (by show j+1<=9223372036854775807;omega) (fun x hx=>by rcases u3b.1 hx with rfl;exact ⟨rfl,rfl⟩) ?_);conv=>whnf)|(refine u3d ?_ ?_<;>conv=>whnf))
     all_goals first
      | exact Le.of_eq rfl
    unfold v2r;conv=>whnf
    refine JQ ⟨[(1,.p (.ip p.cells)),(3,.ptr 0 0),(5,.p (.ip p.procs[j].cells)),(18,.p (.sl (p.procs.map fun f => .agg f.cells))),(19,.p (.int .i64 (p.procs.map fun f=>AV.agg f.cells).length)),(20,.p (.int .i64 j))],v2r p j j (j+1) (j+1) j r1 r1 (r2++[VM (flatU p.procs[j])]) (r3++[QR (WJ p p.procs[j].name)]) r4⟩ ?_ ?_
    ·refine DrawK.of QX mixed (.cons 5 true (.cons 6 true (.cons 7 true (.cons 0 false (.cons 1 false (.cons 2 false (.cons 3 false (.fork 4 (.cons 8 true (.cons 9 true (.cons 10 true (.cons 11 true (.cons 12 true (.cons 13 true .nil)))))) 8 (.alo 4 (.cons 9 true (.cons 10 true (.cons 11 true (.cons 12 true (.cons 13 true .nil)))))))))))))) (by kernel_rfl) ?_;conv=>whnf
     repeat' (first|((first|refine u3d rfl ?_|refine aD ?_|refine bP ?_|refine cP hLv ?_|refine u6q (n:=j) (by omega) rfl (by show (j+1)*24<=140737488355328;omega) (by show j+1<=9223372036854775807;omega) (fun x hx=>by rcases u3b.1 hx with rfl;exact ⟨rfl,rfl⟩) ?_);conv=>whnf)|(refine u3d ?_ ?_<;>conv=>whnf))
     all_goals first
      | exact Le.of_eq rfl
    unfold v2r;conv=>whnf
    refine JQ ⟨[(1,.p (.ip p.cells)),(3,.ptr 0 0),(18,.p (.sl (p.procs.map fun f => .agg f.cells))),(19,.p (.int .i64 (p.procs.map fun f=>AV.agg f.cells).length)),(20,.p (.int .i64 j))],v2r p j j (j+1) (j+1) (j+1) r1 r1 (r2++[VM (flatU p.procs[j])]) (r3++[QR (WJ p p.procs[j].name)]) (r4++[QL (VT p p.procs[j].name)])⟩ ?_ ?_
    ·refine DrawK.of QX mixed (.cons 5 true (.cons 6 true (.cons 7 true (.cons 0 false (.cons 1 false (.cons 2 false (.cons 3 false (.fork 4 (.cons 8 true (.cons 9 true (.cons 10 true (.cons 11 true (.cons 12 true (.cons 13 true .nil)))))) 8 (.alo 4 (.cons 9 true (.cons 10 true (.cons 11 true (.cons 12 true (.cons 13 true .nil)))))))))))))) (by kernel_rfl) ?_;conv=>whnf
     repeat' (first|((first|refine u3d rfl ?_|refine aD ?_|refine bP ?_|refine cP hDa ?_|refine u6q (n:=j) (by omega) rfl (by show (j+1)*24<=140737488355328;omega) (by show j+1<=9223372036854775807;omega) (fun x hx=>by rcases u3b.1 hx with rfl;exact ⟨rfl,rfl⟩) ?_);conv=>whnf)|(refine u3d ?_ ?_<;>conv=>whnf))
     all_goals first
      | exact Le.of_eq rfl
    unfold v2r;conv=>whnf
    refine JQ ⟨[(1,.p (.ip p.cells)),(3,.ptr 0 0),(18,.p (.sl (p.procs.map fun f => .agg f.cells))),(19,.p (.int .i64 (p.procs.map fun f=>AV.agg f.cells).length)),(20,.p (.int .i64 j))],v2r p (j+1) (j+1) (j+1) (j+1) (j+1) (r1++[.nils]) (r1++[.nils]) (r2++[VM (flatU p.procs[j])]) (r3++[QR (WJ p p.procs[j].name)]) (r4++[QL (VT p p.procs[j].name)])⟩ ?_ ?_
    ·refine DrawK.of QX mixed (.cons 0 false (.cons 1 false (.cons 2 false (.cons 3 false (.cons 4 false (.cons 8 false (.cons 9 false (.cons 10 false (.alo 5 (.fork3 6 (.fork3 7 (.alo 11 (.cons 12 true (.cons 13 true (.cons 14 true (.cons 15 true (.cons 16 true (.cons 17 true (.cons 18 true (.cons 19 true .nil))))))))) 11 (.fork 7 (.cons 12 true (.cons 13 true (.cons 14 true (.cons 15 true (.cons 16 true (.cons 17 true (.cons 18 true (.cons 19 true .nil)))))))) 12 (.cons 7 true (.cons 13 true (.cons 14 true (.cons 15 true (.cons 16 true (.cons 17 true (.cons 18 true (.cons 19 true .nil))))))))) 12 (.fork 7 (.cons 11 true (.cons 13 true (.cons 14 true (.cons 15 true (.cons 16 true (.cons 17 true (.cons 18 true (.cons 19 true .nil)))))))) 11 (.cons 7 true (.cons 13 true (.cons 14 true (.cons 15 true (.cons 16 true (.cons 17 true (.cons 18 true (.cons 19 true .nil)))))))))) 11 (.fork 6 (.fork 7 (.cons 12 true (.cons 13 true (.cons 14 true (.cons 15 true (.cons 16 true (.cons 17 true (.cons 18 true (.cons 19 true .nil)))))))) 12 (.cons 7 true (.cons 13 true (.cons 14 true (.cons 15 true (.cons 16 true (.cons 17 true (.cons 18 true (.cons 19 true .nil))))))))) 12 (.cons 6 true (.cons 7 true (.cons 13 true (.cons 14 true (.cons 15 true (.cons 16 true (.cons 17 true (.cons 18 true (.cons 19 true .nil)))))))))) 12 (.fork 6 (.fork 7 (.cons 11 true (.cons 13 true (.cons 14 true (.cons 15 true (.cons 16 true (.cons 17 true (.cons 18 true (.cons 19 true .nil)))))))) 11 (.cons 7 true (.cons 13 true (.cons 14 true (.cons 15 true (.cons 16 true (.cons 17 true (.cons 18 true (.cons 19 true .nil))))))))) 11 (.cons 6 true (.cons 7 true (.cons 13 true (.cons 14 true (.cons 15 true (.cons 16 true (.cons 17 true (.cons 18 true (.cons 19 true .nil)))))))))))))))))))) (by kernel_rfl) ?_;conv=>whnf
     repeat' (first|((first|refine u3d rfl ?_|refine aD ?_|refine bP ?_|refine u6q (n:=j) (by omega) rfl (by show (j+1)*24<=140737488355328;omega) (by show j+1<=9223372036854775807;omega) (fun x hx=>by rcases u3b.1 hx with rfl;exact ⟨rfl,rfl⟩) ?_);conv=>whnf)|(refine u3d ?_ ?_<;>conv=>whnf))
     all_goals first
      | exact Le.of_eq rfl
    unfold v2r;conv=>whnf
    repeat' (refine wI ?_;conv=>whnf)
    exact ⟨j+1,hj2,by omega,Le.of_eq (u5j (St.mk _) e3.symm)⟩
   ·obtain rfl:j=p.procs.length:=by omega
    conv=>whnf
    repeat' (apply bD<;>intro _<;>first|omega|conv=>whnf)
    have hIl:(List.replicate p.procs.length ([]:List Str)).length=p.procs.length:=u5m;refine LoopK.inv QX (fun O:List (List Str)=>⟨[(3,.ptr 0 0)],v5c p (List.replicate p.procs.length []) O⟩) (fun O=>GsI (rdO p) p.procs.length (QV p).outs O) (fun O=>400-tot O) (List.replicate p.procs.length []) (Le.trans (q3w (s':=⟨[(3,.ptr 0 0)],v2l p p.procs.length⟩) (fun i=>by match i with
     | 0=>exact .inr rfl
     | 1=>exact .inr rfl
     | 2=>exact .inr rfl
     | 3=>exact .inl rfl
     | i+4=>exact .inr rfl) (u8g _)) (v1u _ p)) (GsI.zero (gsO hc)) ?_
    intro O hG;have hT:=(hG.okO hc).tot hc;have hgr:=w4n p (List.replicate p.procs.length []) O hc hIl hG;unfold v5c;conv=>whnf
    repeat' (refine CallK.heap [(1000,0),(1001,1),(1002,2),(1003,3),(1004,4),(1005,5)] 0 (u4w (u4v _) (u4w (u4v _) u4s)) (by refine u4x (j:=0) rfl rfl ?_ ?_;exact CSub.refl _;refine u4x (j:=1) rfl rfl ?_ ?_;exact CSub.refl _;refine u4x (j:=2) rfl rfl ?_ ?_;exact CSub.refl _;refine u4x (j:=3) rfl rfl ?_ ?_;exact CSub.refl _;refine u4x (j:=4) rfl rfl ?_ ?_;exact CSub.refl _;refine u4x (j:=5) rfl rfl ?_ ?_;exact CSub.refl _;exact u4c) hgr rfl rfl ?_;rintro l' H' ⟨O',m,rfl,rfl,hG',hmt,hmf⟩;cases m<;>conv=>whnf)
    rotate_left
    ·have h5:=hmt rfl;have hT':=(hG'.okO hc).tot hc;exact ⟨O',hG',by omega,x7k⟩
    obtain ⟨rfl,hfx⟩:=hmf rfl;have hLe:=w9v hc hG hfx;subst hLe;refine LoopK.inv QX (fun I:List (List Str)=>⟨[(3,.ptr 0 0)],v5c p I (QV p).outs⟩) (fun I=>GsI (rdI p (QV p).defs (QV p).outs) p.procs.length (QV p).ins I) (fun I=>400-tot I) (List.replicate p.procs.length []) x7k (GsI.zero (gsI hc)) ?_;intro I hG2;have hT2:=(hG2.okI hc).tot hc;have hgr2:=w9z p I hc hG2;unfold v5c;conv=>whnf
    repeat' (refine CallK.heap [(1000,0),(1001,1),(1002,2),(1003,3),(1004,4),(1005,5)] 0 (u4w (u4v _) (u4w (u4v _) u4s)) (by refine u4x (j:=0) rfl rfl ?_ ?_;exact CSub.refl _;refine u4x (j:=1) rfl rfl ?_ ?_;exact CSub.refl _;refine u4x (j:=2) rfl rfl ?_ ?_;exact CSub.refl _;refine u4x (j:=3) rfl rfl ?_ ?_;exact CSub.refl _;refine u4x (j:=4) rfl rfl ?_ ?_;exact CSub.refl _;refine u4x (j:=5) rfl rfl ?_ ?_;exact CSub.refl _;exact u4c) hgr2 rfl rfl ?_;rintro l' H' ⟨I',m,rfl,rfl,hG',hmt2,hmf2⟩;cases m<;>conv=>whnf)
    all_goals first
     | (have h5:=hmt2 rfl
        have hT':=(hG'.okI hc).tot hc;exact ⟨I',hG',by omega,x7k⟩)
     | (obtain ⟨rfl,hfx2⟩:=hmf2 rfl
        have hLe2:=w9w hc hG2 hfx2;subst hLe2;exact ⟨_,v8d rfl rfl rfl rfl rfl rfl (UF hc).2.len (UF hc).1.len,fun _=>rfl,fun h=>(by cases h)⟩)
section
variable {a b:Str} {p:Pg} {j:Nat} {f:Pr}
end
section
variable {a b:Str} {p:Pg} {j:Nat} {f:Pr}
end
section
variable {a b:Str} {p:Pg} {i:Nat} {f:Pr}
end
section
variable {P:Program} {T:Tab} {N:Nat} {σ:Mem} {β:Lab} {a:Act} {w:World} {o:Oper} {K:St->Prop} {s:St}
theorem z6k (e:TypeId) {sz n:Nat} {cs:List LV} {vs:Array Value} (hrun:(execOp a.eval o).run P w = .ok (.value (.slice (some ⟨w.heap.size,0,none⟩) n n)) (w.alloc (.cells vs e))) (hr:Rel N σ β s a w) (hc:RepC σ β cs vs.toList)
  (hf : ∀ k,WB k s=true->LV.free.freeAll k cs=true) (h63:n<=maxLen)
  (h:FS 60 0 s fun k=>setD N s.sl o.dst (.hd k 0 n) fun sl=>K ⟨sl,(k,.obj e cs)::s.H⟩):z4v P N σ β a w s o K:=by
 intro Q;obtain ⟨k,hk,h⟩:=JV h;have hc':=hc.set (k:=k) (some ⟨w.heap.size,n,sz,[],h63⟩) (hf k hk);have hchunk:(Chunk.obj e cs).holds σ (β.set k (some ⟨w.heap.size,n,sz,[],h63⟩)) (w.alloc (.cells vs e)) k :=
  ⟨⟨w.heap.size,n,sz,[],h63⟩,vs,by simp [Lab.set],heap_alloc_new w _,by simpa using hc.1,fun j l hj=>by
    obtain ⟨u,h1,h2⟩:=hc'.2 j l hj;exact ⟨u,by simpa using h1,h2⟩⟩
 obtain ⟨hr',hl⟩:=hr.new hk rfl rfl hchunk;have hhd:=RepL.hd (σ:=σ) (β:=β.set k (some ⟨w.heap.size,n,sz,[],h63⟩)) k 0 n ⟨w.heap.size,n,sz,[],h63⟩ 0 (by simp [Lab.set]) (by simp) (.inl (by simp));simp only [Nat.sub_zero] at hhd;obtain ⟨sl,hK,hr''⟩:=hr'.setD hhd h;exact UK hrun ⟨σ,_,_,hK,hr'',hl⟩
theorem z1b {k:Nat} {place:Nat->Option (Nat×Nat)} : ∀ {ps:List (Nat×LV)} {cells out:List LV},x3c place cells ps=some out->(∀ l∈cells,l.free k=true)->(∀ x∈ps,x.2.free k=true) -> ∀ l∈out,l.free k=true
 | [],cells,out,h,hc,_=>by
   simp only [x3c,u6d] at h;subst h;exact hc
 | (i,v)::r,cells,out,h,hc,hp=>by
   simp only [x3c] at h;split at h
   ·cases h
   ·rename_i off size hpl;split at h
    ·cases h
    ·rename_i vs hvs;cases hb:(vs.length==size&&Nat.ble (off+size) cells.length) with
     | false=>rw [hb] at h;cases h
     | true =>
       rw [hb,u4y] at h;refine z1b h (fun l hl => ?_) fun x hx=>hp x (u3n _ hx);rcases u3p.1 hl with hl|hl
       ·rcases u3p.1 hl with hl|hl
        ·exact hc l (u9b hl)
        ·exact DO.1 (q1y hvs (hp (i,v) u3g)) l hl
       ·exact hc l (List.mem_of_mem_drop hl)
theorem w2e (hT:TabOK P T) {t:TypeId} {n:Nat} {parts:Array (Nat×Operand)} (hop:o.op = .buildSlice t n parts) {it:TyI} (ht:T.get t=some it) {e:TypeId} (hd:it.desc = .slice e) {ie:TyI} (hie:T.get e=some ie)
  (hsm:n*ie.size<=16777216) (hpos:0<ie.size) {out:List LV} (hout:x3c (fun i=>some (i*ie.size,ie.size)) (List.replicate (n*ie.size) (.p .any)) (parts.toList.map fun x=>(x.1,XX s.sl x.2))=some out)
  (h:FS 60 0 s fun k=>setD N s.sl o.dst (.hd k 0 n) fun sl=>K ⟨sl,(k,.obj e out)::s.H⟩):OpK P N s o K:=by
 have hf : ∀ k,WB k s=true->LV.free.freeAll k out=true:=fun k hk=>by
  refine DO.2 (z1b hout (fun l hl=>by rw [u6b hl];rfl) fun x hx => ?_);obtain ⟨y,_,rfl⟩:=u3s.1 hx;exact q6w hk y.2
 refine ⟨fun σ β a w hr => ?_⟩;have ht':=hT.of ht;rw [hd] at ht';have hok:=hT _ _ hie;have hrep : ∀ (j:Nat) (x:Nat×LV) (y:Nat×Value),(parts.toList.map fun x=>(x.1,XX s.sl x.2))[j]? = some x->(parts.toList.map fun x=>(x.1,a.eval x.2))[j]? = some y->RepL σ β x.2 y.2:=fun j x y hx hy=>by
  rw [u4q] at hx hy;cases hq:parts.toList[j]? with
  | none=>rw [hq] at hx;cases hx
  | some q=>rw [hq] at hx hy;cases hx;cases hy;exact QY hr.slots _
 let zs:Array Value:=(Array.range (n*ie.size)).map (ie.zero.cells[· % ie.zero.cells.size]!);obtain ⟨cs,hcs,hrc⟩:=q3f (σ:=σ) (β:=β) (place:=fun i=>some (i*ie.size,ie.size)) (placeL:=fun i=>some (i*ie.size,ie.size)) (fun _ _ h=>h) _ (parts.toList.map fun x=>(x.1,a.eval x.2)) _ zs out (by simp) hrep (BR (n*ie.size) zs.toList (by simp [zs])) hout;have hrun:(execOp a.eval o).run P w = .ok (.value (.slice (some ⟨w.heap.size,0,none⟩) n n)) (w.alloc (.cells cs e)):=by
  have hcs':Instr.fill (fun i=>some (i*ie.size,ie.size)) zs ((parts.map fun (i,x)=>(i,a.eval x)).toList)=some cs:=by
   rw [<- hcs];congr 1;simp
  by_cases h0:n*ie.size=0
  ·have hz:zs = #[]:=by apply Array.eq_empty_of_size_eq_zero;simp [zs,h0]
   have hz':zs=(Array.range (n*ie.size)).map ((#[]:Array Value)[· % (#[]:Array Value).size]!):=by rw [hz,h0];simp [Array.range_zero']
   have : ¬n*ie.size>16777216:=by omega
   rw [hz'] at hcs';simp only [execOp,hop,Instr.buildSlice,Sem.run_bind,run_underlying ht',Result.andThen_ok,hok.sizeOf,Nat.reducePow,if_neg this,if_pos h0,Sem.run_pure,hcs',newRow,run_newObj];rfl
  ·have : ¬n*ie.size>16777216:=by omega
   simp only [execOp,hop,Instr.buildSlice,Sem.run_bind,run_underlying ht',Result.andThen_ok,hok.sizeOf,Nat.reducePow,if_neg this,if_neg h0,hok.zeroValue,Sem.run_pure,zs] at hcs' ⊢;simp only [hcs',Sem.run_bind,newRow,run_newObj,Result.andThen_ok,Sem.run_pure];rfl
 have h63:n<=maxLen:=by
  have:n*1<=n*ie.size:=Nat.mul_le_mul_left _ hpos;simp only [maxLen];omega
 exact z6k (sz:=ie.size) e hrun hr hrc hf h63 h
end
theorem z7q (n:Nat) {es:List AV} {sz:Nat} {out:List LV} {Kp Ko:Prop} (hl:es.length=n) (hx:(es.all fun x=>x.cells.length==sz)=true) (ho:out=(es.flatMap AV.cells).map .p) (hK:Ko):BsK es sz out Kp Ko := .own (fun x h=>by simpa using u5t.1 hx x h) ho hK
def rwS (id kind:Int) (name proc:Str) (x:List AV) (has args thn els:AV):AV := .agg ([.int .i64 id,.int .i64 kind,.nils,.str name,.str proc]++x++[has,args,thn,els])
def x0:List AV:=[.int .i64 0,.int .i64 0,.str [],.nils]
def bd0:List AV:=[rwS 1 1 [118] [] (X.mk 1 2 [] []).cells .ff .nils .nils .nils,
 rwS 2 4 [103] [112] x0 .ff (.sl [.agg ([.ff,.str []]++(X.mk 1 3 [] []).cells),.agg ([.tt,.str [118]]++x0)]) .nils .nils,
 rwS 3 3 [] [] (X.mk 2 0 [118] []).cells .ff .nils .nils .nils,rwS 4 3 [] [] (X.mk 2 0 [103] []).cells .ff .nils .nils .nils]
def bd1:List AV:=[rwS 5 1 [121] [] (X.mk 8 0 [] [.mk 2 0 [121] [],.mk 2 0 [120] []]).cells .ff .nils .nils .nils,
 rwS 6 5 [] [] (X.mk 12 0 [] [.mk 2 0 [121] [],.mk 1 9 [] []]).cells .ff .nils (.sl [rwS 7 10 [101] [] x0 .ff .nils .nils .nils]) .nils,
 rwS 8 9 [] [] (X.mk 2 0 [121] []).cells .tt .nils .nils .nils]
def prc (a b:Nat):List LV:=[.p (.str [109,97,105,110]),.p .nils,.p (.sl [.str [118]]),.hd a 0 4,.p .nils,.p (.str [112]),.p (.sl [.agg [.str [120],.ff],.agg [.str [121],.tt]]),.p .nils,.hd b 0 3,.p (.sl [.str [101]])]
def u2h:Heap:=[(5,.obj 90 (prc 1 3)),(3,.own 40 13 bd1),(1,.own 40 13 bd0),(0,.obj 25 [.p (.sl [.str [103]]),.hd 5 0 2])]
theorem v1z:SpecH prog 68 [] [] (fun r H=>r = .agg [.p (.sl [.str [103]]),.hd 5 0 2]∧H=u2h):=by
 refine sH KO func68 rfl call68 ?_;conv=>whnf
 repeat' ((first|refine cP (PZ _) ?_|refine cP (DG _) ?_|refine u3d rfl ?_|refine aD ?_|refine z7q 4 rfl rfl rfl ?_|refine z7q 3 rfl rfl rfl ?_|refine BsK.pureL rfl rfl ?_|refine w2e QX rfl rfl rfl rfl (by decide) (by decide) rfl ?_|refine cP (UJ 8 (.mk 2 0 [121] []) (.mk 2 0 [120] [])) ?_|refine cP (UJ 12 (.mk 2 0 [121] []) (.mk 1 9 [] [])) ?_);conv=>whnf)
 exact u6h _ (u4v _) ⟨rfl,rfl⟩
theorem z4g {P:Program} {N:Nat} {g:FuncId} {args:List LV} {dst:Option Nat} {s:St} {K:St->Prop} {avs:List AV} (H1 H0:Heap) (sl0:List (Nat×LV)) (hH:s.H=H1++H0) (ha:FrzL H1 args avs)
  (hsl : ∀ i,getS sl0 i=getS s.sl i∨getS sl0 i = .p .any) (h:CallK P N g (avs.map .p) dst ⟨sl0,H0⟩ K):CallK P N g args dst s K:=by
 refine ⟨fun σ β a w hr vals hn hv => ?_⟩;obtain ⟨hlen,hget⟩:=ha.get;have hheap:=hr.heap;rw [hH] at hheap;have hl1 : ∀ k,k∈H1.map (·.1)->k∈(H1++H0).map (·.1):=fun k hk=>by rw [u3t];exact u6z _ hk
 have hl0 : ∀ k,k∈H0.map (·.1)->k∈(H1++H0).map (·.1):=fun k hk=>by rw [u3t];exact u7u _ hk
 have hnd:=hheap.nodup;rw [u3t,u5p] at hnd;have hr1:HRel σ β H1 w:=⟨hheap.mem,fun k c hc=>hheap.chunks k c (u6z _ hc),hnd.1,fun k hk=>hheap.apart k (hl1 k hk),fun k hk k' hk'=>hheap.inj k (hl1 k hk) k' (hl1 k' hk')⟩;obtain ⟨τ,h5,h6,h7,h8⟩:=NF hr1;have hno : ∀ b,owns β H1 b->owns β H0 b->False:=fun b ⟨k,hk,i,hi,hb⟩ ⟨k',hk',i',hi',hb'⟩=>by
  have he:=hheap.inj k (hl1 k hk) k' (hl0 k' hk') i i' hi hi' b hb hb';exact hnd.2.2 k hk k' hk' he
 have hrel:Rel N τ β ⟨sl0,H0⟩ a w:=by
  refine ⟨hr.size,hr.defers,fun i => ?_,⟨h6,fun k c hc=>(hheap.chunks k c (u7u _ hc)).mono h5 fun _ _ _ _=>rfl,hnd.2.1,fun k hk i hi b hb => ?_,fun k hk k' hk'=>hheap.inj k (hl0 k hk) k' (hl0 k' hk')⟩⟩
  ·rcases hsl i with he|he
   ·show RepL τ β (getS sl0 i) _;rw [he];exact (hr.slots i).mono h5
   ·show RepL τ β (getS sl0 i) _;rw [he];exact .p (.any _)
  ·have h9:=hheap.apart k (hl0 k hk) i hi b hb;refine ⟨?_,h9.2⟩;cases hq:τ b with
   | none=>rfl
   | some c =>
     rcases h7 b (by rw [hq];simp) with h10|h10
     ·exact absurd h9.1 h10
     ·exact (hno b h10 ⟨k,hk,i,hi,hb⟩).elim
 have hlat:Later σ β s.H w τ β H0 w:=by
  rw [hH];refine ⟨h5,Frm.refl _ _,fun b h0 h1 => ?_,fun b ⟨k,hk,r⟩ => .inl ⟨k,hl0 k hk,r⟩,fun _ _ _=>rfl⟩;rcases h7 b h1 with h2|⟨k,hk,r⟩
  ·exact absurd h0 h2
  ·exact .inl ⟨k,hl1 k hk,r⟩
 obtain ⟨q1,q2⟩:=h.ok τ β a w hrel vals (by rw [u3k,<- hlen];exact hn) fun j l hj=>by
  rw [u4q] at hj;cases hq:avs[j]? with
  | none=>rw [hq] at hj;cases hj
  | some c =>
    rw [hq] at hj;cases hj;obtain ⟨l,h1,h2⟩:=hget j c hq;exact .p (h8 l _ c (hv j l h1) h2)
 exact ⟨q1,q2.mono fun e w' ⟨u,σ',β',s',he,hK,hr',hl'⟩=>⟨u,σ',β',s',he,hK,hr',hlat.trans hl'⟩⟩
def d0P:Pg:=⟨[[103]],[
 ⟨[109,97,105,110],[],[[118]],[
   .mk 1 1 [] [118] [] (.mk 1 2 [] []) false [] [] [],
   .mk 2 4 [] [] [112] (.mk 0 0 [] []) false [⟨false,[],.mk 1 3 [] []⟩,⟨true,[118],.mk 0 0 [] []⟩] [] [],
   .mk 3 3 [] [] [] (.mk 2 0 [118] []) false [] [] [],
   .mk 4 3 [] [] [] (.mk 2 0 [103] []) false [] [] []],[]⟩,
 ⟨[112],[⟨[120],false⟩,⟨[121],true⟩],[],[
   .mk 0 2 [] [120] [] (.mk 0 0 [] []) false [] [] [],
   .mk 6 5 [] [] [] (.mk 12 0 [] [.mk 2 0 [121] [],.mk 1 9 [] []]) false [] [.mk 7 10 [] [101] [] (.mk 0 0 [] []) false [] [] []] [],
   .mk 8 9 [] [] [] (.mk 2 0 [103] []) true [] [] []],[[101]]⟩]⟩
def dP:Pg:=⟨[[103]],[
 ⟨[109,97,105,110],[],[[118]],[
   .mk 1 1 [] [118] [] (.mk 1 2 [] []) false [] [] [],
   .mk 2 4 [] [] [112] (.mk 0 0 [] []) false [⟨false,[],.mk 1 3 [] []⟩,⟨true,[118],.mk 0 0 [] []⟩] [] [],
   .mk 3 3 [] [] [] (.mk 2 0 [118] []) false [] [] [],
   .mk 4 3 [] [] [] (.mk 2 0 [103] []) false [] [] []],[]⟩,
 ⟨[112],[⟨[120],false⟩,⟨[121],true⟩],[],[
   .mk 5 2 [] [120] [] (.mk 0 0 [] []) false [] [] [],
   .mk 6 5 [] [] [] (.mk 12 0 [] [.mk 2 0 [121] [],.mk 1 9 [] []]) false [] [.mk 7 10 [] [101] [] (.mk 0 0 [] []) false [] [] []] [],
   .mk 8 9 [] [] [] (.mk 2 0 [103] []) true [] [] []],[[101]]⟩]⟩
theorem v6f:v5s d0P=dP:=by kernel_rfl
theorem v3g:CopyF d0P:=by
 refine ⟨by decide,by decide,fun f hf => ?_⟩;have h2:f=d0P.procs[0]∨f=d0P.procs[1]:=by simpa [d0P] using hf
 have h3 : ∀ t∈flL d0P.procs[0].body,okC t∧t.id ≠ -1:=by unfold okC;decide
 have h4 : ∀ t∈flL d0P.procs[1].body,okC t∧t.id ≠ -1:=by unfold okC;decide
 rcases h2 with rfl|rfl
 ·exact ⟨by decide,by decide,by decide,by decide,h3⟩
 ·exact ⟨by decide,by decide,by decide,by decide,h4⟩
theorem z7c {H:Heap} {k n:Nat} {e sz:Nat} {es es':List AV} (hg:getH H k=some (.own e sz es)) (hn:n=es.length) (hs:SubE es es'):Frz H (.hd k 0 n) (.sl es') := .sub (.hd hg hn) (Sub.sl hs)
def v8j:List AV:=(bd1.set 0 (rwS 0 2 [120] [] x0 .ff .nils .nils .nils)).set 2 (rwS 8 9 [] [] [.int .i64 2,.int .i64 0,.str [103],.nils] .tt .nils .nils .nils)
def v8y:List AV:=bd0.set 1 (rwS 2 4 [] [112] x0 .ff (.sl [.agg ([.ff,.str []]++(X.mk 1 3 [] []).cells),.agg ([.tt,.str [118]]++x0)]) .nils .nils)
def v8h:Heap:=[(1,.obj 25 [.p (.sl [.str [103]]),.hd 25 0 2]),(25,.obj 90 (prc 21 23)),(23,.own 40 13 v8j),(21,.own 40 13 v8y)]
theorem u2f:SubE v8y [.agg d0P.procs[0].body[0].cells,.agg d0P.procs[0].body[1].cells,.agg d0P.procs[0].body[2].cells,.agg d0P.procs[0].body[3].cells]:=by repeat' (first|exact SubL.nil|exact SubE.nil|exact Sub.nils|exact Sub.ff rfl|exact Sub.tt rfl|refine SubL.cons ?_ ?_|refine SubE.cons ?_ ?_|exact Sub.refl _|refine Sub.agg ?_|refine Sub.sl ?_)
theorem u2d:SubE v8j [.agg d0P.procs[1].body[0].cells,.agg d0P.procs[1].body[1].cells,.agg d0P.procs[1].body[2].cells]:=by repeat' (first|exact SubL.nil|exact SubE.nil|exact Sub.nils|exact Sub.ff rfl|exact Sub.tt rfl|refine SubL.cons ?_ ?_|refine SubE.cons ?_ ?_|exact Sub.refl _|refine Sub.agg ?_|refine Sub.sl ?_)
theorem v6h:Frz v8h (.agg [.p (.sl [.str [103]]),.hd 25 0 2]) (.agg d0P.cells):=by
 have f0:Frz v8h (.hd 21 0 4) (eSs d0P.procs[0].body):=z7c (es:=v8y) rfl rfl u2f;have f1:Frz v8h (.hd 23 0 3) (eSs d0P.procs[1].body):=z7c (es:=v8j) rfl rfl u2d;have fp:Frz v8h (.hd 25 0 2) (.sl (d0P.procs.map fun f => .agg f.cells)):=by
  refine Frz.hdo (sz:=5) (ls:=prc 21 23) (cs:=d0P.procs[0].cells++d0P.procs[1].cells) rfl rfl (fun j l c h1 h2 => ?_) rfl (fun m x hx => ?_) (fun m x j c hx hj => ?_)
  ·match j,h1,h2 with
   | 0,h1,h2=>cases h1;cases h2;exact .p (Sub.refl _)
   | 1,h1,h2=>cases h1;cases h2;exact .p Sub.nils
   | 2,h1,h2=>cases h1;cases h2;exact .p (Sub.refl _)
   | 3,h1,h2=>cases h1;cases h2;exact f0
   | 4,h1,h2=>cases h1;cases h2;exact .p Sub.nils
   | 5,h1,h2=>cases h1;cases h2;exact .p (Sub.refl _)
   | 6,h1,h2=>cases h1;cases h2;exact .p (by repeat' (first|exact SubL.nil|exact SubE.nil|exact Sub.nils|exact Sub.ff rfl|exact Sub.tt rfl|refine SubL.cons ?_ ?_|refine SubE.cons ?_ ?_|exact Sub.refl _|refine Sub.agg ?_|refine Sub.sl ?_))
   | 7,h1,h2=>cases h1;cases h2;exact .p Sub.nils
   | 8,h1,h2=>cases h1;cases h2;exact f1
   | 9,h1,h2=>cases h1;cases h2;exact .p (Sub.refl _)
   | j+10,h1,h2=>cases h1
  ·match m,hx with
   | 0,hx=>cases hx;rfl
   | 1,hx=>cases hx;rfl
   | m+2,hx=>cases hx
  ·match m,hx with
   | 0,hx =>
     cases hx
     match j,hj with
     | 0,hj=>exact hj
     | 1,hj=>exact hj
     | 2,hj=>exact hj
     | 3,hj=>exact hj
     | 4,hj=>exact hj
     | j+5,hj=>cases hj
   | 1,hx =>
     cases hx
     match j,hj with
     | 0,hj=>exact hj
     | 1,hj=>exact hj
     | 2,hj=>exact hj
     | 3,hj=>exact hj
     | 4,hj=>exact hj
     | j+5,hj=>cases hj
   | m+2,hx=>cases hx
 refine .agg rfl fun j l c h1 h2 => ?_
 match j,h1,h2 with
 | 0,h1,h2=>cases h1;cases h2;exact .p (Sub.refl _)
 | 1,h1,h2=>cases h1;cases h2;exact fp
 | j+2,h1,h2=>cases h1
theorem q0w:SpecP prog 69 [] (fun r=>r = .agg dP.cells):=by
 have hN:=q2w d0P v3g (by decide);rw [v6f] at hN;refine SpecP.body ⟨QP [(5,[0]),(4,[0,1]),(3,[0,1]),(2,[0,1]),(1,[0,1]),(0,[0])],QW [],QZ []⟩ QX func69 rfl call69 (by show 0<=_;decide) ?_;conv=>whnf
 repeat' (first|((first|refine u3d rfl ?_|refine u5q 0 rfl (by decide) ?_|refine u5q 1 rfl (by decide) ?_|refine u5q 2 rfl (by decide) ?_|refine u6o 0 0 _ (rwS 0 2 [120] [] x0 .ff .nils .nils .nils) rfl rfl (by decide) rfl ?_|refine u6o 2 5 _ (rwS 8 9 [] [] [.int .i64 2,.int .i64 0,.str [103],.nils] .tt .nils .nils .nils) rfl rfl (by decide) rfl ?_|refine u6o 1 3 _ (rwS 2 4 [] [112] x0 .ff (.sl [.agg ([.ff,.str []]++(X.mk 1 3 [] []).cells),.agg ([.tt,.str [118]]++x0)]) .nils .nils) rfl rfl (by decide) rfl ?_);conv=>whnf)|(refine CallK.heap [] 20 u4s u4c v1z rfl rfl ?_;rintro l' H' ⟨rfl,rfl⟩;conv=>whnf))
 refine z4g [(1,.obj 25 [.p (.sl [.str [103]]),.hd 25 0 2]),(25,.obj 90 (prc 21 23)),(23,.own 40 13 v8j),(21,.own 40 13 v8y)] [(0,.obj 25 [.p .nils,.p .nils])] [(0,.ptr 0 0)] rfl (avs:=[.agg d0P.cells]) (.cons v6h .nil) (fun i=>by
  cases i with
  | zero=>exact .inl rfl
  | succ i=>exact .inr rfl) ?_
 refine CallK.pure hN (.cons (Sub.refl _) .nil) ?_;rintro _ rfl;conv=>whnf
 repeat' (refine u3d rfl ?_;conv=>whnf)
 all_goals first
  | exact ⟨_,.p (Sub.refl _),rfl⟩
  | exact RetK.p rfl
end Go.Ab
