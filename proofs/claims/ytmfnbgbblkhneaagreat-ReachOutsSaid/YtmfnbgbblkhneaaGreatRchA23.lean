/- Blocks of the call's own under other labels. Conditions: none. -/
import Derived.Test.YtmfnbgbblkhneaaGreatRchA4
import Derived.Test.YtmfnbgbblkhneaaGreatRchA6
import Derived.Test.YtmfnbgbblkhneaaGreatRchA17
import Derived.Test.YtmfnbgbblkhneaaGreatRchA18
import Derived.Test.YtmfnbgbblkhneaaGreatRchA20
import Derived.Test.YtmfnbgbblkhneaaGreatRchA21
import Derived.Test.YtmfnbgbblkhneaaGreatRchA22
set_option linter.unusedSimpArgs false
set_option linter.unusedVariables false
set_option maxRecDepth 100000
set_option maxHeartbeats 16000000
namespace Go.Ab
open Go.Proofs.Tryz
variable {D I O U W:List (List Str)}{N k:Nat}{f:Pr}{n:Str}{p:Pg}
inductive SlR(g:Nat->Option Nat)(sl:List (Nat×LV)):List (Nat×LV)->Prop
 |nil:SlR g sl []
 |cons {i:Nat} {l:LV} {r:List (Nat×LV)} (h:LSub ((getS sl i).ren g) l) (hr:SlR g sl r):SlR g sl ((i,l)::r)
theorem SlR.r{g:Nat->Option Nat}{sl:List (Nat×LV)}{i:Nat}{r:List (Nat×LV)}(h:SlR g sl r):SlR g sl ((i,(getS sl i).ren g)::r):=.cons (.refl _) h
theorem SlR.get{g:Nat->Option Nat}{sl sl':List (Nat×LV)}(h:SlR g sl sl')(i:Nat):LSub ((getS sl i).ren g) (getS sl' i)\/getS sl' i=.p .any:=by
 induction h with
 |nil=>exact .inr rfl
 | @cons j l r h hr ih=>
   simp only[getS];by_cases hj:j=i
   ·subst hj;exact .inl (by simpa using h)
   ·have:(j==i)=false:=by simp[hj]
    simpa[this]using ih
theorem IF{s s':St}(π:Nat->Nat)(h2:∀k,π (π k)=k)(hpin:∀j,1000<=j->j<2000->π j=j)(hsl:SlR (fun k=>some (π k)) s.sl s'.sl)(hH:∀j c,(j,c)∈s'.H->∃c0,(π j,c0)∈s.H/\CSub (c0.ren fun k=>some (π k)) c)(hnd:(s'.H.map (·.1)).Nodup):Le N s s':=fun σ β a w hr=>by
 have hg:∀k j,(fun k=>some (π k)) k=some j->(fun j=>β (π j)) j=β k:=fun k j hk=>by
  cases hk;show β (π (π k))=β k;rw[h2]
 have hin:∀j∈s'.H.map (·.1),π j∈s.H.map (·.1):=fun j hj=>by
  obtain⟨⟨j',c⟩,hm,rfl⟩:=q7s.1 hj;obtain⟨c0,h1,_⟩:=hH j' c hm;exact q7s.2 ⟨_,h1,rfl⟩
 refine⟨σ,fun j=>β (π j),⟨hr.size,hr.defers,fun i=>?_,hr.heap.mem,fun j c hj=>?_,hnd,fun j hj i hi b hb=>hr.heap.apart (π j) (hin j hj) i hi b hb,fun j hj j' hj' i i' hi hi' b hb hb'=>?_⟩,Mem.le_refl σ,Frm.refl _ _,fun b h0 h1=>absurd h0 h1,fun b ⟨j,hj,i,hi,hb⟩=>.inl ⟨π j,hin j hj,i,hi,hb⟩,fun k h0 h1=>?_⟩
 ·rcases hsl.get i with h|h
  ·exact h.rep ((hr.slots i).ren hg)
  ·rw[h];exact .p (.any _)
 ·obtain⟨c0,h1,h3⟩:=hH j c hj;exact h3 _ _ _ _ ((hr.heap.chunks (π j) c0 h1).ren (j:=j) hg (by show some (π (π j))=some j;rw[h2]))
 ·have:=hr.heap.inj (π j) (hin j hj) (π j') (hin j' hj') i i' hi hi' b hb hb';rw[<-h2 j,this,h2]
 ·show β (π k)=β k;rw[hpin k h0 h1]
open Go.Proofs
theorem YP(l:List Str)(hlen:l.length<=1000000000):SpecH prog 86 [.hd 1000 0 l.length] [(1000,.own 9 1 (l.map .str))] (fun r H=>r=.p (eStrs (WR l))/\H=[]):=by
 have h:=Vg l hlen;refine⟨h.go,fun σ β w vals h1 h2 h3=>(h.ok σ β w vals h1 h2 h3).mono fun ex w' hx=>?_⟩;obtain⟨r,u,σ',β',H',he,⟨rfl,rfl⟩,hrep,hrel,hlat⟩:=hx;generalize WR l=m at*
 obtain⟨s',rfl,hle⟩:=Le.row (N:=1) (s:=⟨[(0,.hd 1000 0 m.length)],[(1000,.own 9 1 (m.map .str))]⟩) (k:=1000) (e:=9) (sz:=1) (es:=m.map .str) (zs:=[0]) rfl (K:=fun s=>s=⟨[(0,.p (eStrs m))],[]⟩)
  ⟨(q7f _).symm,rfl⟩
 obtain⟨σ2,β2,hr2,hl2⟩:=hle σ' β' {tmps:=#[u],defers:=[]} w' ⟨rfl,rfl,fun i=>by
  match i with
  |0=>simpa[getS]using hrep
  |i+1=>exact .p (by simpa[getS]using Rep.any _),hrel⟩
 exact⟨.p (eStrs m),u,σ2,β2,[],he,⟨rfl,rfl⟩,by simpa[getS]using hr2.slots 0,hr2.heap,hlat.trans hl2⟩
def Ng(p:Pg)(l1 l2 l3:LV)(n:Nat):Chunk:=.obj 95 [.p (.ip (sheetOf p).cells),l1,l2,l3,.hd 0 0 n,.hd 1 0 n]
def UI(L:List (List Str)):Chunk:=.own 22 1 (L.map eStrs)
def K2(p:Pg)(k:Nat):Chunk:=.own 115 1 (((wysB p).take k).map fun w=>.ip w.cells)
theorem S5(n:Nat):ElS (List.replicate n (AV.ofV (.slice none 0 0))) ((List.replicate n ([]:List Str)).map eStrs):=by
 refine⟨by simp,fun m x h=>?_⟩;rw[x0l,q8l]at h;rw[q8l];split at h
 ·cases h;rw[if_pos (by assumption)];refine⟨_,rfl,rfl,fun j c hc=>?_⟩
  match j,hc with
  |0,hc=>cases hc;exact⟨_,rfl,Sub.nils⟩
 ·cases h
theorem q1c{a:AV}{n:Nat}:
  Le N ⟨[(1,.p a),(3,.ptr 2 0)],[(2,.obj 95 [.p (.ip (sheetOf p).cells),.p (AV.ofS (.slice none 0 0)),.p (AV.ofS (.slice none 0 0)),.p (AV.ofS (.slice none 0 0)),.hd 0 0 n,.hd 1 0 n]),(1,.own 22 1 (List.replicate n (AV.ofV (.slice none 0 0)))),(0,.own 22 1 (List.replicate n (AV.ofV (.slice none 0 0))))]⟩
   ⟨[(1,.p a),(3,.ptr 2 0)],[(3,K2 p 0),(2,Ng p (.hd 3 0 0) (.p .nils) (.p .nils) n),(1,UI (List.replicate n [])),(0,UI (List.replicate n []))]⟩:=by
 refine Le.trans (Le.els (.same (.els (S5 n) (.els (S5 n) .nil)))) ?_;exact Le.mk [(3,K2 p 0)] (by simp[Chunk.new0,K2];rfl) (by simp) (by simp) (.r (.r .nil)) (.new q7d (.cons rfl (.obj (.r (.cons (.nil q7d) (.r (.r (.r (.r .nil))))))) (.cons rfl (.refl _) (.cons rfl (.refl _) .nil))))
def q3o(k:Nat):Nat:=if k=0 then 1 else if k=1 then 0 else k
theorem q3e{a:AV}{n:Nat}:
  Le N ⟨[(1,.p a),(3,.ptr 2 0)],[(2,.obj 95 [.p (.ip (sheetOf p).cells),.p (AV.ofS (.slice none 0 0)),.p (AV.ofS (.slice none 0 0)),.p (AV.ofS (.slice none 0 0)),.hd 1 0 n,.hd 0 0 n]),(1,.own 22 1 (List.replicate n (AV.ofV (.slice none 0 0)))),(0,.own 22 1 (List.replicate n (AV.ofV (.slice none 0 0))))]⟩
   ⟨[(1,.p a),(3,.ptr 2 0)],[(3,K2 p 0),(2,Ng p (.hd 3 0 0) (.p .nils) (.p .nils) n),(1,UI (List.replicate n [])),(0,UI (List.replicate n []))]⟩:=by
 refine Le.trans ?_ q1c;refine IF q3o (fun k=>by unfold q3o;split<;>(try split)<;>simp_all) (fun j h0 h1=>by unfold q3o;rw[if_neg (by omega),if_neg (by omega)]) (.r (.r .nil)) (fun j c hj=>?_) (by simp);rcases q7r.1 hj with he|hj
 ·cases he;exact⟨_,q7d,CSub.refl _⟩
 rcases q7r.1 hj with he|hj
 ·cases he;exact⟨_,q7n _ (q7n _ q7d),CSub.refl _⟩
 rcases q7r.1 hj with he|hj
 ·cases he;exact⟨_,q7n _ q7d,CSub.refl _⟩
 ·cases hj
theorem CA(hk:k<W.length)(hl:W.length=O.length):((W.take k++O.drop k).map eStrs).set k (eStrs W[k])=(W.take (k+1)++O.drop (k+1)).map eStrs:=by
 rw[<-q9k,x1d _ _ (by rw[q8n];omega),q8n,show k-min k W.length=0 by omega,q8o (by omega),x1n,q8q hk,q8d];rfl
theorem IY(hk:k<O.length)(hl:W.length=O.length):((W.take k++O.drop k).map eStrs)[k]?=some (eStrs O[k]):=by
 rw[q7l,q9w (by rw[q8n];omega),q8n,show k-min k W.length=0 by omega,q9f,x2l,q7g hk];rfl
theorem CC(hk:k<=O.length)(hl:W.length=O.length):((W.take k++O.drop k).map eStrs).length=O.length:=by
 rw[q7f,q7b,q8n,x0u];omega
theorem IJ(hk:k<W.length)(hk':k<O.length):decide (W.take (k+1)=O.take (k+1))=(decide (W.take k=O.take k)&&decide (W[k]=O[k])):=by
 rw[q8q hk,q8q hk',<-Bool.decide_and];refine decide_eq_decide.2 ⟨fun h=>?_,fun h=>by rw[h.1,h.2]⟩;have h1:=List.append_inj' h rfl;exact⟨h1.1,by simpa using h1.2⟩
theorem Rg(hc:QO p=true)(h:OkI p I){t:S}(ht:t∈YZ p):(PR (bkI p I) t).length<=1000000000:=by
 have h1:=Rk t;unfold PR;split
 ·rename_i h4;have h2:=(NL hc ht h4).2;have h3:=GV CE t.args;have h5:t.args.length*1048577<=8*1048577:=q9y _ h2;have h6:=h.len25 hc (caI (bkI p I).s.p t).toNat;have h7:(inAt (bkI p I) t).length<=25:=h6;simp only[q7b];omega
 ·omega
theorem E9{P:Program}{g:FuncId}{args:List LV}{dst:Option Nat}{s:St}{K:St->Prop}{avs:List AV}{L:List Str}{nil:Prop}(k:Nat)(hu:WX k s=true)(hs:SpecH P g (avs.map .p) [] (OneRow (Ky L) nil))(ha:FrzL s.H args avs)(hn:nil->setD N s.sl dst (.p .nils) fun sl=>K ⟨sl,s.H⟩)(h:setD N s.sl dst (.hd k 0 L.length) fun sl=>K ⟨sl,(k,.own 9 1 (L.map .str))::s.H⟩):CallK P N g args dst s K:=
 YH k hu hs ha hn fun q e sz es hR=>by
  obtain⟨rfl,rfl,rfl⟩:=hR;rw[q7f];exact h
theorem q1j{H:Heap}{l1 l2 l3:LV}{n:Nat}(hg:getH H 2=some (Ng p l1 l2 l3 n))(h1:Frz H l1 (.sl ((wysB p).map fun w=>.ip w.cells)))(h2:Frz H l2 (.sl (D.map eStrs)))(h3:Frz H l3 (.sl (U.map eStrs)))(h4:Frz H (.hd 0 0 n) (.sl (I.map eStrs)))(h5:Frz H (.hd 1 0 n) (.sl (O.map eStrs))):Frz H (.ptr 2 0) (.ip (Book.cells ⟨sheetOf p,wysB p,D,U,I,O⟩)):=
 Frz.ptr (off:=0) (cs:=Book.cells ⟨sheetOf p,wysB p,D,U,I,O⟩) hg rfl fun j l c hj hc=>by
  match j,hj,hc with
  |0,hj,hc=>cases hj;cases hc;exact .p (Sub.refl _)
  |1,hj,hc=>cases hj;cases hc;exact h1
  |2,hj,hc=>cases hj;cases hc;exact h2
  |3,hj,hc=>cases hj;cases hc;exact h3
  |4,hj,hc=>cases hj;cases hc;exact h4
  |5,hj,hc=>cases hj;cases hc;exact h5
  |j+6,hj,_=>cases hj
theorem MO:K2 p p.procs.length=.own 115 1 ((wysB p).map fun w=>.ip w.cells):=by
 unfold K2;rw[q8y (by unfold wysB;rw[q7f,x0h];exact q8z _)]
theorem LP:p.procs.length=((wysB p).map fun w=>AV.ip w.cells).length:=by
 unfold wysB;rw[q7f,q7f,x0h]
theorem Bl{L:List (List Str)}(h:k<L.length){o:List Str}(ho:L[k]=o):UI (L.take (k+1))=.own 22 1 ((L.take k).map eStrs++[eStrs o]):=by
 unfold UI;rw[q8q h,q7o,ho];rfl
def PF:Code->List Code
 |.seq a b=>PF a++PF b
 |.cond _ a b=>PF a++PF b
 |.block _ b=>PF b
 |.loop b=>b::PF b
 |_=>[]
noncomputable def q6d(k:Nat):Code:=(PF (Tryz.f48.body.getD .skip)).getD k .skip
theorem Ot(hc:QO p=true){R:List (List Str)}(hO:OkO p O)(hDl:D.length=(sheetOf p).l.length)(hUl:U.length=(sheetOf p).l.length)(hd:∀d∈D,d.Pairwise ltT/\d.length<=1000000000)(hu:∀d∈U,d.Pairwise ltT/\d.length<=1000000000)(hIn:I.length=p.procs.length)(hRn:R.length=p.procs.length)(hR:∀(k:Nat)(h:k<p.procs.length)(h':k<R.length),R[k]=WR (L1 p k p.procs[k] D U (O.getD k []))){K:Exit->St->Prop}(hK:∀(m:Bool)(s:St),m=(!decide (R=I))->Le Tryz.f48.ntmps s ⟨[(1,.p (.ip p.cells)),(3,.ptr 2 0),(10,.p (.bool m))],[(5,UI U),(4,UI D),(3,K2 p p.procs.length),(2,Ng p (.hd 3 0 p.procs.length) (.hd 4 0 D.length) (.hd 5 0 U.length) p.procs.length),(1,UI O),(0,UI R)]⟩->K (.exit 12) s):
  LoopK prog tab Tryz.f48.ntmps Yp (q6d 6) K ⟨[(1,.p (.ip p.cells)),(3,.ptr 2 0),(10,.p .ff),(147,.p (.int .i64 (p.procs.map fun f=>AV.agg f.cells).length)),(148,.p (.int .i64 0))],[(5,UI U),(4,UI D),(3,K2 p p.procs.length),(2,Ng p (.hd 3 0 p.procs.length) (.hd 4 0 D.length) (.hd 5 0 (sheetOf p).l.length) p.procs.length),(1,UI O),(0,UI I)]⟩:=by
 obtain⟨hg,hpl,hcn⟩:=XP hc;have hpm:(p.procs.map fun f=>AV.agg f.cells).length=p.procs.length:=q7f _;have hWl:R.length=I.length:=by omega
 have hOn:=hO.len;have hOl:p.procs.length=(O.map eStrs).length:=by rw[q7f,hO.len]
 have hKD:D.length=(D.map eStrs).length:=by rw[q7f]
 refine LoopK.inv QK (fun x:Nat×Bool=>⟨[(1,.p (.ip p.cells)),(3,.ptr 2 0),(10,.p (.bool x.2)),(147,.p (.int .i64 (p.procs.map fun f=>AV.agg f.cells).length)),(148,.p (.int .i64 x.1))],[(5,UI U),(4,UI D),(3,K2 p p.procs.length),(2,Ng p (.hd 3 0 p.procs.length) (.hd 4 0 D.length) (.hd 5 0 (sheetOf p).l.length) p.procs.length),(1,UI O),(0,UI (R.take x.1++I.drop x.1))]⟩)
  (fun x=>x.1<=p.procs.length/\x.2 = !decide (R.take x.1=I.take x.1)) (fun x=>p.procs.length-x.1) (0,false)
  (Le.mk [] (by simp) (by simp) (by simp) (.r (.r (.cons (.p (Sub.ff rfl)) (.r (.r .nil))))) (.cons rfl (.refl _) (.cons rfl (.refl _) (.cons rfl (.refl _) (.cons rfl (.refl _) (.cons rfl (.refl _) (.cons rfl (.refl _) .nil))))))) ⟨q7c _,rfl⟩ ?_
 rintro⟨k,m⟩ ⟨hk1,hm1⟩;simp only at hk1 hm1⊢;rcases q7e k p.procs.length with hk2|hk2;rotate_left 1
 ·obtain rfl:k=p.procs.length:=by omega
  rw[q8y (by omega),q8y (by omega)]at hm1;rw[q8y (by omega),q8v (by omega),q9h];conv=>whnf
  repeat' (apply bD<;>intro _<;>first|omega|conv=>whnf)
  exact hK m _ hm1 (Le.mk [] (by simp) (by simp) (by simp) (.r (.r (.r .nil))) (.cons rfl (.refl _) (.cons rfl (.refl _) (.cons rfl (.refl _) (.cons rfl (.of_eq (by rw[hUl])) (.cons rfl (.refl _) (.cons rfl (.refl _) .nil)))))))
 ·have hkj:p.procs[k]?=some p.procs[k]:=by simp
  have hpk:=JM hkj;obtain⟨o,ho⟩ : ∃o,O.getD k []=o:=⟨_,rfl⟩;have hOk:O[k]?=some o:=by rw[<-ho,q7h,q7g (by omega)];rfl
  have horise:o.Pairwise ltT:=by rw[<-ho];exact MY hO.rise k
  have hol25:o.length<=25:=by rw[<-ho];exact hO.len25 hc k
  have hwk:(wysB p)[k]?=some (QQ p k p.procs[k]):=by rw[F3 hk2,hpk]
  have hN:=fun x=>Vk ⟨sheetOf p,wysB p,D,U,(R).take k++I.drop k,O⟩ p hc k p.procs[k] hkj hwk o hOk horise (by omega) hDl hUl hd hu x;have hin:=Gn ⟨sheetOf p,wysB p,D,U,(R).take k++I.drop k,O⟩ p rfl hc k p.procs[k] hkj hwk o hN;have hrow:(R)[k]'(by omega)=WR (L1 p k p.procs[k] D U o):=by
   rw[hR k hk2 (by omega),ho]
  have hol:(L1 p k p.procs[k] D U o).length<=1000000000:=by
   have h1:(L1 p k p.procs[k] D U o).length<=(p.globals++[KE]).length:=q9l _ _;rw[q7b,q8p]at h1;omega
  have hin1:SpecH prog 91 ([AV.ip (Book.cells ⟨sheetOf p,wysB p,D,U,(R).take k++I.drop k,O⟩),.int .i64 k].map .p) [] (OneRow (Ky (L1 p k p.procs[k] D U o)) False):=hin;have hup:=CA (W:=R) (O:=I) (k:=k) (by omega) hWl;have hat:=IY (W:=R) (O:=I) (k:=k) (by omega) hWl;have hln:=CC (W:=R) (O:=I) (k:=k) (by omega) hWl;have hde:=IJ (W:=R) (O:=I) (k:=k) (by omega) (by omega);have hEq:=ZO ((R)[k]'(by omega)) (I[k]'(by omega));rw[hrow]at hEq hup hde;have hKU:(sheetOf p).l.length=(U.map eStrs).length:=by rw[q7f];omega
  have hIl':p.procs.length=(((R).take k++I.drop k).map eStrs).length:=by rw[hln];omega
  clear hin hrow hN;generalize L1 p k p.procs[k] D U o=ol at*
  generalize hdq:decide (WR ol=I[k])=dq at hEq hde;have hdk:decide ((R).take k=I.take k) = !m:=by rw[hm1,Bool.not_not]
  rw[hdk]at hde;cases m<;>cases dq;all_goals
   conv=>whnf
   repeat' (first|((first|refine q7p rfl ?_|refine wI ?_|refine q9x k rfl (by omega) ?_|refine q9t k 0 (eStrs I[k]) (by omega) hat ?_|refine cP hEq ?_|refine x0r k 0 (eStrs I[k]) (eStrs (WR ol)) (by omega) hat (q8z 1) rfl ?_);conv=>whnf)|(apply bD<;>intro _<;>first|omega|conv=>whnf)|(apply bB<;>intro _<;>conv=>whnf)|(refine E9 6 rfl hin1 (.cons (q1j rfl (.hd (q9e some MO) LP) (.hd rfl hKD) (.hd rfl hKU) (.hd rfl hIl') (.hd rfl hOl)) (.cons (.p (Sub.refl _)) .nil)) (fun hnil=>hnil.elim) ?_;conv=>whnf)|(refine CallK.heap [(1000,6)] 0 (q8w (q8k _) q8c) (by refine q8x (j:=6) rfl rfl ?_ ?_;exact CSub.refl _;exact q8a) (YP ol hol) rfl rfl ?_;rintro l' H' ⟨rfl,rfl⟩;conv=>whnf))
  all_goals first
   |exact absurd (show false=true by assumption) (by decide)
   |exact absurd (show true=false by assumption) (by decide)
   |exact⟨(k+1,true),⟨hk2,by simp only;rw[hde];rfl⟩,by simp only;omega,Le.mk [] (by simp) (by simp) (by simp) (.r (.r (.cons (.p (Sub.tt rfl)) (.r (.r .nil))))) (.cons rfl (.refl _) (.cons rfl (.refl _) (.cons rfl (.refl _) (.cons rfl (.refl _) (.cons rfl (.refl _) (.cons rfl (.of_eq (q9e (Chunk.own 22 1) hup)) .nil))))))⟩
   |exact⟨(k+1,true),⟨hk2,by simp only;rw[hde];rfl⟩,by simp only;omega,Le.mk [] (by simp) (by simp) (by simp) (.r (.r (.r (.r (.r .nil))))) (.cons rfl (.refl _) (.cons rfl (.refl _) (.cons rfl (.refl _) (.cons rfl (.refl _) (.cons rfl (.refl _) (.cons rfl (.of_eq (q9e (Chunk.own 22 1) hup)) .nil))))))⟩
   |exact⟨(k+1,false),⟨hk2,by simp only;rw[hde];rfl⟩,by simp only;omega,Le.mk [] (by simp) (by simp) (by simp) (.r (.r (.r (.r (.r .nil))))) (.cons rfl (.refl _) (.cons rfl (.refl _) (.cons rfl (.refl _) (.cons rfl (.refl _) (.cons rfl (.refl _) (.cons rfl (.of_eq (q9e (Chunk.own 22 1) hup)) .nil))))))⟩
   |exact⟨(k+1,false),⟨hk2,by simp only;rw[hde];rfl⟩,by simp only;omega,Le.mk [] (by simp) (by simp) (by simp) (.r (.r (.cons (.p (Sub.ff rfl)) (.r (.r .nil))))) (.cons rfl (.refl _) (.cons rfl (.refl _) (.cons rfl (.refl _) (.cons rfl (.refl _) (.cons rfl (.refl _) (.cons rfl (.of_eq (q9e (Chunk.own 22 1) hup)) .nil))))))⟩
theorem q1a(h:k<p.procs.length)(h':k<(niB p D U O).length):(niB p D U O)[k]=WR (L1 p k p.procs[k] D U (O.getD k [])):=by
 have h2:k<((List.range p.procs.length).map (niA p D U O)).length:=h';show((List.range p.procs.length).map (niA p D U O))[k]'h2=_;rw[x1i,x3j];unfold niA;rw[JM (q7g h)]
theorem q2v:∀(k:Nat)(h:k<p.procs.length)(h':k<(rdI p D O I).length),(rdI p D O I)[k]=WR (L1 p k p.procs[k] D (usB p I) (O.getD k [])):=fun _ h h'=>q1a h h'
theorem DU(p:Pg)(hf:Fit p):SpecP prog 48 [.agg p.cells] (fun r=>(QO p=true->r=.ip (QG p).cells)/\(QO p=false->r=.nilp)):=by
 refine sB Yp func48 rfl call48 ?_;conv=>whnf
 have hM:=KN p hf;cases hc:QO p with
 | false=>
   rw[hc]at hM;repeat' (first|(refine cP hM ?_;conv=>whnf)|(apply bN<;>intro _<;>conv=>whnf))
   all_goals first
    |contradiction
    |exact⟨_,.p (Sub.refl _),fun h=>(by cases h),fun _=>rfl⟩
 | true =>
   rw[hc]at hM;obtain⟨hg,hpl,hcn⟩:=XP hc;have hpm:(p.procs.map fun f=>AV.agg f.cells).length=p.procs.length:=q7f _;have hFl:=JD p (by omega) (by omega);repeat' (first|(refine cP hM ?_;conv=>whnf)|(apply bN<;>intro _<;>conv=>whnf))
   all_goals try contradiction
   refine LM ⟨[(1,.p (.ip p.cells)),(3,.ptr 2 0)],[(3,K2 p 0),(2,Ng p (.hd 3 0 0) (.p .nils) (.p .nils) p.procs.length),(1,UI (List.replicate p.procs.length [])),(0,UI (List.replicate p.procs.length []))]⟩ ?_ ?_
   ·refine DrawK.of QK mixed (.cons 0 false (.cons 2 false (.cons 3 false (.cons 4 false (.cons 6 false (.cons 7 false (.cons 8 false (.fork3 1 (.fork 5 (.cons 9 true (.cons 10 true (.cons 11 true (.cons 12 true .nil)))) 9 (.cons 5 true (.cons 10 true (.cons 11 true (.cons 12 true .nil))))) 5 (.fork 1 (.cons 9 true (.cons 10 true (.cons 11 true (.cons 12 true .nil)))) 9 (.cons 1 true (.cons 10 true (.cons 11 true (.cons 12 true .nil))))) 9 (.fork 1 (.cons 5 true (.cons 10 true (.cons 11 true (.cons 12 true .nil)))) 5 (.cons 1 true (.cons 10 true (.cons 11 true (.cons 12 true .nil))))))))))))) (by kernel_rfl) ?_;conv=>whnf
    repeat' (first|((first|(refine iM fun _=>?_)|refine q7p rfl ?_|refine aR ?_|refine cP hFl ?_|refine x2m p.procs.length (by rw[hpm]) (by show 24*_<=140737488355328;omega) (by unfold maxLen;omega) ?_);conv=>whnf)|(refine q7p ?_ ?_<;>conv=>whnf))
    all_goals first
     |exact q1c
     |exact q3e
   conv=>whnf
   repeat' (refine iM fun _=>?_;conv=>whnf)
   have hnW:(wysB p).length=p.procs.length:=by unfold wysB;rw[q7f,x0h]
   refine LoopK.inv QK (fun k:Nat=>⟨[(1,.p (.ip p.cells)),(3,.ptr 2 0),(32,.p (.int .i64 (p.procs.map fun f=>AV.agg f.cells).length)),(33,.p (.int .i64 k))],[(3,K2 p k),(2,Ng p (.hd 3 0 k) (.p .nils) (.p .nils) p.procs.length),(1,UI (List.replicate p.procs.length [])),(0,UI (List.replicate p.procs.length []))]⟩) (fun k=>k<=p.procs.length) (fun k=>p.procs.length-k) 0 (Le.of_eq rfl) (q7c _) ?_;intro k hk;rcases q7e k p.procs.length with hk2|hk2
   ·have hkj:p.procs[k]?=some p.procs[k]:=by simp
    obtain⟨w1,w2,w3⟩:=Q7 hc hkj;have hWn:=A5 p k p.procs[k] hkj (by omega) w1 w3;have hwl:(((wysB p).take k).map fun w=>AV.ip w.cells).length=k:=by rw[q7f,q8n,hnW];omega
    have hst:K2 p (k+1)=.own 115 1 ((((wysB p).take k).map fun w=>AV.ip w.cells)++[.ip (QQ p k p.procs[k]).cells]):=by
     unfold K2;rw[q8q (by rw[hnW];exact hk2),q7o];have e:(wysB p)[k]'(by rw[hnW];exact hk2)=QQ p k p.procs[k]:=by
      have h1:=F3 hk2;rw[q7g (by rw[hnW];exact hk2),JM hkj]at h1;exact x0m h1
     rw[e];rfl
    conv=>whnf
    repeat' (first|((first|refine dA ?_|refine q7p rfl ?_|refine aD ?_|refine bP ?_|refine wI ?_|refine cP hWn ?_|refine x1m hwl.symm rfl (by show(k+1)*8<=140737488355328;omega) (by show k+1<=9223372036854775807;omega) (fun x hx=>by rcases q7m.1 hx with rfl;exact⟨rfl,rfl⟩) ?_);conv=>whnf)|(apply bD<;>intro _<;>first|omega|conv=>whnf)|(refine q7p ?_ ?_<;>conv=>whnf))
    all_goals first
     |exact⟨k+1,hk2,by omega,Le.of_eq (by rw[hst];rfl)⟩
   ·obtain rfl:k=p.procs.length:=by omega
    conv=>whnf
    repeat' (apply bD<;>intro _<;>first|omega|conv=>whnf)
    refine LoopK.inv QK (fun x:Bool×List (List Str)×List (List Str)=>⟨[(1,.p (.ip p.cells)),(3,.ptr 2 0),(5,.p (.bool x.1))],[(4,UI x.2.1),(3,K2 p p.procs.length),(2,Ng p (.hd 3 0 p.procs.length) (.hd 4 0 x.2.1.length) (.p .nils) p.procs.length),(1,UI x.2.2),(0,UI (List.replicate p.procs.length []))]⟩)
     (fun x=>(∃r,x.2.2=itO p r)/\(x.1=false->rdO p x.2.2=x.2.2/\x.2.1=dfB p x.2.2)) (fun x=>2*(400-tot x.2.2)+x.1.toNat) (true,[],List.replicate p.procs.length [])
     (Le.mk [(4,UI [])] (by simp[Chunk.new0,UI];rfl) (by simp) (by simp) (.r (.r (.cons (.p (Sub.tt rfl)) .nil))) (.new q7d (.cons rfl (.refl _) (.cons rfl (.obj (.r (.r (.cons (.nil q7d) (.r (.r (.r .nil))))))) (.cons rfl (.refl _) (.cons rfl (.refl _) .nil)))))) ⟨⟨0,rfl⟩,fun h=>by cases h⟩ ?_
    rintro⟨m,D,O⟩ ⟨⟨r,hr⟩,hm⟩;simp only at hr hm⊢;have hO:=Vt p r;rw[<-hr]at hO;cases m with
    | false =>
      obtain⟨hf1,hf2⟩:=hm rfl;conv=>whnf
      repeat' (refine Br.ff ?_;conv=>whnf)
      subst hf2;have hfixO:=hf1;clear hm hf1;have hDl:=Gg p O;have hd:∀d∈dfB p O,d.Pairwise ltT/\d.length<=1000000000:=fun d hd=>by
       obtain⟨it,hi,rfl⟩:=q7s.1 hd;have h1:=YI (PA (bkO p O) it.s);have h2:=Zp hc hO (t:=it.s) (by rw[<-JZ];exact q7s.2 ⟨_,hi,rfl⟩);exact⟨ZK _,by omega⟩
      have hOn:=hO.len;obtain⟨D,hD⟩ : ∃D,dfB p O=D:=⟨_,rfl⟩;rw[hD]at hDl hd⊢;have hBk:∀I,(∃r,I=itI p D O r)->rdI p D O I=I->QG p=⟨sheetOf p,wysB p,D,usB p I,I,O⟩:=fun I h1 h2=>by
       have hB:BookR p ⟨sheetOf p,wysB p,D,usB p I,I,O⟩:=⟨rfl,rfl,⟨r,hr⟩,hfixO,hD.symm,h1,h2,rfl⟩;exact hB.eq.symm
      refine LoopK.inv QK (fun x:Bool×List (List Str)×List (List Str)=>⟨[(1,.p (.ip p.cells)),(3,.ptr 2 0),(10,.p (.bool x.1))],[(5,UI x.2.1),(4,UI D),(3,K2 p p.procs.length),(2,Ng p (.hd 3 0 p.procs.length) (.hd 4 0 D.length) (.hd 5 0 x.2.1.length) p.procs.length),(1,UI O),(0,UI x.2.2)]⟩)
       (fun x=>(∃r,x.2.2=itI p D O r)/\(x.1=false->rdI p D O x.2.2=x.2.2/\x.2.1=usB p x.2.2)) (fun x=>2*(400-tot x.2.2)+x.1.toNat) (true,[],List.replicate p.procs.length [])
       (Le.mk [(5,UI [])] (by simp[Chunk.new0,UI];rfl) (by simp) (by simp) (.r (.r (.cons (.p (Sub.tt rfl)) .nil))) (.new q7d (.cons rfl (.refl _) (.cons rfl (.refl _) (.cons rfl (.obj (.r (.r (.r (.cons (.nil q7d) (.r (.r .nil))))))) (.cons rfl (.refl _) (.cons rfl (.refl _) .nil))))))) ⟨⟨0,rfl⟩,fun h=>by cases h⟩ ?_
      rintro⟨m,U,I⟩ ⟨⟨q,hq⟩,hm⟩;simp only at hq hm⊢;have hI:=Vr p D O q;rw[<-hq]at hI;have hOl:p.procs.length=(O.map eStrs).length:=by rw[q7f,hO.len]
      have hKD:D.length=(D.map eStrs).length:=by rw[q7f]
      cases m with
      | false=>
        obtain⟨hf1,rfl⟩:=hm rfl;have hbk:=hBk I ⟨q,hq⟩ hf1;have hIl:p.procs.length=(I.map eStrs).length:=by rw[q7f,hI.len]
        have hKU:(usB p I).length=((usB p I).map eStrs).length:=by rw[q7f]
        conv=>whnf
        repeat' (refine Br.ff ?_;conv=>whnf)
        all_goals first
         |exact⟨_,q1j rfl (.hd (q9e some MO) LP) (.hd rfl hKD) (.hd rfl hKU) (.hd rfl hIl) (.hd rfl hOl),fun _=>by rw[hbk],fun h=>by cases h⟩
      | true=>
        have hLl:((sheetOf p).l.map fun i=>AV.agg i.cells).length=(sheetOf p).l.length:=q7f _;obtain⟨_,_,_,hsl,_⟩:=QV p;have hUl:(usB p I).length=(sheetOf p).l.length:=q7f _;have hIl:p.procs.length=(I.map eStrs).length:=by rw[q7f,hI.len]
        conv=>whnf
        repeat' ((first|(refine iM fun _=>?_)|refine q7p rfl ?_|refine Br.tt ?_);conv=>whnf)
        refine LoopK.inv QK (fun k:Nat=>⟨[(1,.p (.ip p.cells)),(3,.ptr 2 0),(10,.p .ff),(124,.p (VL (sheetOf p).l)),(125,.p (.int .i64 ((sheetOf p).l.map fun i=>AV.agg i.cells).length)),(126,.p (.int .i64 k))],[(5,UI ((usB p I).take k)),(4,UI D),(3,K2 p p.procs.length),(2,Ng p (.hd 3 0 p.procs.length) (.hd 4 0 D.length) (.hd 5 0 k) p.procs.length),(1,UI O),(0,UI I)]⟩) (fun k=>k<=(sheetOf p).l.length) (fun k=>(sheetOf p).l.length-k) 0
         (Le.trans (s':=⟨[(1,.p (.ip p.cells)),(3,.ptr 2 0),(10,.p .ff),(124,.p (VL (sheetOf p).l)),(125,.p (.int .i64 ((sheetOf p).l.map fun i=>AV.agg i.cells).length)),(126,.p (.int .i64 (0:Nat)))],[(4,UI D),(3,K2 p p.procs.length),(2,Ng p (.hd 3 0 p.procs.length) (.hd 4 0 D.length) (.p .nils) p.procs.length),(1,UI O),(0,UI I)]⟩) (lE) (Le.mk [(5,UI [])] (by simp[Chunk.new0,UI];rfl) (by simp) (by simp) (.r (.r (.r (.r (.r (.r .nil)))))) (.new q7d (.cons rfl (.refl _) (.cons rfl (.refl _) (.cons rfl (.obj (.r (.r (.r (.cons (.nil q7d) (.r (.r .nil))))))) (.cons rfl (.refl _) (.cons rfl (.refl _) .nil)))))))) (q7c _) ?_
        intro k hk;rcases q7e k (sheetOf p).l.length with hk2|hk2;rotate_left 1
        ·obtain rfl:k=(sheetOf p).l.length:=by omega
         have hWl:(rdI p D O I).length=I.length:=by rw[hI.len];unfold rdI niB;rw[q7f,x0h]
         have hIn:=hI.len;rw[show(usB p I).take (sheetOf p).l.length=usB p I from q8y (by omega)];have hu:∀d∈usB p I,d.Pairwise ltT/\d.length<=1000000000:=fun d hd=>by
          obtain⟨it,hi,rfl⟩:=q7s.1 hd;have h1:=YI (PR (bkI p I) it.s);have h2:=Rg hc hI (t:=it.s) (by rw[<-JZ];exact q7s.2 ⟨_,hi,rfl⟩);exact⟨ZK _,by omega⟩
         conv=>whnf
         repeat' (first|(refine iM fun _=>?_;conv=>whnf)|(apply bD<;>intro _<;>first|omega|conv=>whnf))
         have hW:rdI p D O I=itI p D O (q+1):=by rw[hq];rfl
         refine Ot hc hO hDl hUl hd hu hIn (hWl.trans hIn) q2v fun m s hm1 hle=>?_;conv=>whnf
         refine⟨(m,usB p I,rdI p D O I),⟨⟨q+1,hW⟩,fun h=>?_⟩,?_,hle⟩
         ·simp only at h⊢;rw[h]at hm1;have h1:rdI p D O I=I:=by simpa using hm1
          rw[h1];exact⟨h1,rfl⟩
         ·simp only;have hOW:tot (rdI p D O I)<=400:=(Ic p D (usB p I) O).tot hc;cases m with
          | true=>
            have h1:rdI p D O I≠I:=by simpa using hm1
            have h2:=L5 hc (D:=D) (O:=O) (k:=q) (by rw[<-hW,<-hq];exact h1);rw[<-hW,<-hq]at h2;simp only[Bool.toNat_true];omega
          | false=>
            have h1:rdI p D O I=I:=by simpa using hm1
            rw[h1];simp only[Bool.toNat_true,Bool.toNat_false];omega
        have hmem:(sheetOf p).l[k].s∈YZ p:=by rw[<-JZ];exact q7s.2 ⟨_,q7i hk2,rfl⟩
        have hKl:k=(((usB p I).take k).map eStrs).length:=by rw[q7f,q8n];omega
        have hd0:=Yv ⟨sheetOf p,wysB p,D,(usB p I).take k,I,O⟩ (sheetOf p).l[k].s (fun h4=>hI.use hc rfl rfl hmem h4);rw[CI (p:=p) (I:=I) rfl rfl]at hd0;have hd1:SpecH prog 90 ([AV.ip (Book.cells ⟨sheetOf p,wysB p,D,(usB p I).take k,I,O⟩),.agg (sheetOf p).l[k].s.cells].map .p) [] (OneRow (Ky (PR (bkI p I) (sheetOf p).l[k].s)) (PR (bkI p I) (sheetOf p).l[k].s=[])):=hd0;have hdl:=Rg hc hI hmem;have hst:=Bl (L:=usB p I) (k:=k) (by omega) (o:=WR (PR (bkI p I) (sheetOf p).l[k].s)) (by unfold usB;rw[x1i]);generalize hds:PR (bkI p I) (sheetOf p).l[k].s=ds at*
        clear hd0;conv=>whnf
        repeat' (first|((first|refine dA ?_|refine q7p rfl ?_|refine aD ?_|refine bP ?_|(refine iA fun _=>?_)|refine wI ?_|refine x1m hKl rfl (by show(k+1)*24<=140737488355328;omega) (by show k+1<=9223372036854775807;omega) (fun x hx=>by rcases q7m.1 hx with rfl;exact⟨rfl,rfl⟩) ?_);conv=>whnf)|(apply bD<;>intro _<;>first|omega|conv=>whnf)|(refine E9 6 rfl hd1 (.cons (q1j rfl (.hd (q9e some MO) LP) (.hd rfl hKD) (.hd rfl hKl) (.hd rfl hIl) (.hd rfl hOl)) (.cons (.p (Sub.refl _)) .nil)) (fun hnil=>?_) ?_<;>conv=>whnf)|(refine CallK.nil 6 9 1 rfl (.row .nil) ?_;refine CallK.heap [(1000,6)] 0 (q8w (q8k _) q8c) (by refine q8x (j:=6) rfl rfl ?_ ?_;exact CSub.refl _;exact q8a) (YP [] (by simp)) rfl rfl ?_;rintro l' H' ⟨rfl,rfl⟩;conv=>whnf)|(refine CallK.heap [(1000,6)] 0 (q8w (q8k _) q8c) (by refine q8x (j:=6) rfl rfl ?_ ?_;exact CSub.refl _;exact q8a) (YP ds (by omega)) rfl rfl ?_;rintro l' H' ⟨rfl,rfl⟩;conv=>whnf)|(refine q7p ?_ ?_<;>conv=>whnf))
        all_goals first
         |exact⟨k+1,hk2,by omega,Le.of_eq (by rw[hst,hnil];rfl)⟩
         |exact⟨k+1,hk2,by omega,Le.of_eq (by rw[hst];rfl)⟩
    | true =>
      have hLl:((sheetOf p).l.map fun i=>AV.agg i.cells).length=(sheetOf p).l.length:=q7f _;obtain⟨_,_,_,hsl,_⟩:=QV p;conv=>whnf
      repeat' ((first|(refine iM fun _=>?_)|refine q7p rfl ?_|refine Br.tt ?_);conv=>whnf)
      refine LoopK.inv QK (fun k:Nat=>⟨[(1,.p (.ip p.cells)),(3,.ptr 2 0),(5,.p .ff),(62,.p (VL (sheetOf p).l)),(63,.p (.int .i64 ((sheetOf p).l.map fun i=>AV.agg i.cells).length)),(64,.p (.int .i64 k))],[(4,UI ((dfB p O).take k)),(3,K2 p p.procs.length),(2,Ng p (.hd 3 0 p.procs.length) (.hd 4 0 k) (.p .nils) p.procs.length),(1,UI O),(0,UI (List.replicate p.procs.length []))]⟩) (fun k=>k<=(sheetOf p).l.length) (fun k=>(sheetOf p).l.length-k) 0
       (Le.trans (s':=⟨[(1,.p (.ip p.cells)),(3,.ptr 2 0),(5,.p .ff),(62,.p (VL (sheetOf p).l)),(63,.p (.int .i64 ((sheetOf p).l.map fun i=>AV.agg i.cells).length)),(64,.p (.int .i64 (0:Nat)))],[(3,K2 p p.procs.length),(2,Ng p (.hd 3 0 p.procs.length) (.p .nils) (.p .nils) p.procs.length),(1,UI O),(0,UI (List.replicate p.procs.length []))]⟩) (lE) (Le.mk [(4,UI [])] (by simp[Chunk.new0,UI];rfl) (by simp) (by simp) (.r (.r (.r (.r (.r (.r .nil)))))) (.new q7d (.cons rfl (.refl _) (.cons rfl (.obj (.r (.r (.cons (.nil q7d) (.r (.r (.r .nil))))))) (.cons rfl (.refl _) (.cons rfl (.refl _) .nil))))))) (q7c _) ?_
      intro k hk;rcases q7e k (sheetOf p).l.length with hk2|hk2;rotate_left 1
      ·obtain rfl:k=(sheetOf p).l.length:=by omega
       have hDl:=Gg p O;have hWl:(rdO p O).length=O.length:=by rw[hO.len];unfold rdO otB;rw[q7f,x0h]
       have hOn:=hO.len;rw[show(dfB p O).take (sheetOf p).l.length=dfB p O from q8y (by omega)];have hd:∀d∈dfB p O,d.length<=1000:=fun d hd=>by
        obtain⟨it,hi,rfl⟩:=q7s.1 hd;have h1:=YI (PA (bkO p O) it.s);have h2:=Zp hc hO (t:=it.s) (by rw[<-JZ];exact q7s.2 ⟨_,hi,rfl⟩);omega
       conv=>whnf
       repeat' (first|(refine iM fun _=>?_;conv=>whnf)|(apply bD<;>intro _<;>first|omega|conv=>whnf))
       refine LoopK.inv QK (fun x:Nat×Bool=>⟨[(1,.p (.ip p.cells)),(3,.ptr 2 0),(5,.p (.bool x.2)),(85,.p (.int .i64 (p.procs.map fun f=>AV.agg f.cells).length)),(86,.p (.int .i64 x.1))],[(4,UI (dfB p O)),(3,K2 p p.procs.length),(2,Ng p (.hd 3 0 p.procs.length) (.hd 4 0 (sheetOf p).l.length) (.p .nils) p.procs.length),(1,UI ((rdO p O).take x.1++O.drop x.1)),(0,UI (List.replicate p.procs.length []))]⟩)
        (fun x=>x.1<=p.procs.length/\x.2 = !decide ((rdO p O).take x.1=O.take x.1)) (fun x=>p.procs.length-x.1) (0,false)
        (Le.mk [] (by simp) (by simp) (by simp) (.r (.r (.cons (.p (Sub.ff rfl)) (.r (.r .nil))))) (.cons rfl (.refl _) (.cons rfl (.refl _) (.cons rfl (.refl _) (.cons rfl (.refl _) (.cons rfl (.refl _) .nil)))))) ⟨q7c _,rfl⟩ ?_
       rintro⟨k,m⟩ ⟨hk1,hm1⟩;simp only at hk1 hm1⊢;rcases q7e k p.procs.length with hk2|hk2;rotate_left 1
       ·obtain rfl:k=p.procs.length:=by omega
        rw[q8y (by omega),q8y (by omega)]at hm1;rw[q8y (by omega),q8v (by omega),q9h];have hW:rdO p O=itO p (r+1):=by rw[hr];rfl
        conv=>whnf
        repeat' (apply bD<;>intro _<;>first|omega|conv=>whnf)
        refine⟨(m,dfB p O,rdO p O),⟨⟨r+1,hW⟩,fun h=>?_⟩,?_,Le.mk [] (by simp) (by simp) (by simp) (.r (.r (.r .nil))) (.cons rfl (.refl _) (.cons rfl (.refl _) (.cons rfl (.of_eq (by rw[hDl])) (.cons rfl (.refl _) (.cons rfl (.refl _) .nil)))))⟩
        ·simp only at h⊢;rw[h]at hm1;have h1:rdO p O=O:=by simpa using hm1
         rw[h1];exact⟨h1,rfl⟩
        ·simp only;have hOW:=(Ie p (dfB p O)).tot hc;have hOW:tot (rdO p O)<=400:=hOW;cases m with
         | true=>
           have h1:rdO p O≠O:=by simpa using hm1
           have h2:=L6 (p:=p) (k:=r) (by rw[<-hW,<-hr];exact h1);rw[<-hW,<-hr]at h2;simp only[Bool.toNat_true];omega
         | false=>
           have h1:rdO p O=O:=by simpa using hm1
           rw[h1];simp only[Bool.toNat_true,Bool.toNat_false];omega
       have hkj:p.procs[k]?=some p.procs[k]:=by simp
       have hpk:=JM hkj;have hWk:wysB p=(wysB p):=rfl;have hout:=Yw ⟨sheetOf p,wysB p,dfB p O,[],List.replicate p.procs.length [],(rdO p O).take k++O.drop k⟩ p rfl hc k p.procs[k] hkj (by show(wysB p)[k]?=_;rw[F3 hk2,hpk]) hDl hd;have hrow:(rdO p O)[k]'(by omega)=WR (Py p k p.procs[k] (dfB p O) (itsOf p k p.procs[k])):=by
        unfold rdO otB;rw[x1i,x3j];unfold otA;rw[hpk]
       have hol:(Py p k p.procs[k] (dfB p O) (itsOf p k p.procs[k])).length<=1000000000:=by
        have h1:=Lj (p:=p) (i:=k) (f:=p.procs[k]) hd (itsOf p k p.procs[k]);have h2:(itsOf p k p.procs[k]).length<=200:=by
         obtain⟨_,_,_,_,hsp⟩:=QV p;obtain⟨_,_,h3,h4⟩:=hsp k _ hkj;have h5:=q9e List.length h4;rw[x0u,q8n]at h5;have e1:itL (k:Nat) 0 (-1) 0 (QM p.procs k) p.procs[k].body=itsOf p k p.procs[k]:=rfl;rw[e1]at h5;omega
        have h3:(itsOf p k p.procs[k]).length*1000<=200*1000:=q9y _ h2;omega
       have hout1:SpecH prog 88 ([AV.ip (Book.cells ⟨sheetOf p,wysB p,dfB p O,[],List.replicate p.procs.length [],(rdO p O).take k++O.drop k⟩),.int .i64 k].map .p) [] (OneRow (Ky (Py p k p.procs[k] (dfB p O) (itsOf p k p.procs[k]))) False):=hout;have hup:=CA (W:=rdO p O) (O:=O) (k:=k) (by omega) hWl;have hat:=IY (W:=rdO p O) (O:=O) (k:=k) (by omega) hWl;have hln:=CC (W:=rdO p O) (O:=O) (k:=k) (by omega) hWl;have hde:=IJ (W:=rdO p O) (O:=O) (k:=k) (by omega) (by omega);have hEq:=ZO ((rdO p O)[k]'(by omega)) (O[k]'(by omega));rw[hrow]at hEq hup hde;have hKl:(sheetOf p).l.length=((dfB p O).map eStrs).length:=by rw[q7f];omega
       have hOl:p.procs.length=(((rdO p O).take k++O.drop k).map eStrs).length:=by rw[hln];omega
       have hIl:p.procs.length=((List.replicate p.procs.length ([]:List Str)).map eStrs).length:=by rw[q7f,q9d]
       clear hout hrow;generalize Py p k p.procs[k] (dfB p O) (itsOf p k p.procs[k])=ol at*
       generalize hdq:decide (WR ol=O[k])=dq at hEq hde;have hdk:decide ((rdO p O).take k=O.take k) = !m:=by rw[hm1,Bool.not_not]
       rw[hdk]at hde;cases m<;>cases dq;all_goals
        conv=>whnf
        repeat' (first|((first|refine q7p rfl ?_|refine wI ?_|refine q9x k rfl (by omega) ?_|refine q9t k 0 (eStrs O[k]) (by omega) hat ?_|refine cP hEq ?_|refine x0r k 0 (eStrs O[k]) (eStrs (WR ol)) (by omega) hat (q8z 1) rfl ?_);conv=>whnf)|(apply bD<;>intro _<;>first|omega|conv=>whnf)|(apply bB<;>intro _<;>conv=>whnf)|(refine E9 5 rfl hout1 (.cons (q1j rfl (.hd (q9e some MO) LP) (.hd rfl hKl) (.p Sub.nils) (.hd rfl hIl) (.hd rfl hOl)) (.cons (.p (Sub.refl _)) .nil)) (fun hnil=>hnil.elim) ?_;conv=>whnf)|(refine CallK.heap [(1000,5)] 0 (q8w (q8k _) q8c) (by refine q8x (j:=5) rfl rfl ?_ ?_;exact CSub.refl _;exact q8a) (YP ol hol) rfl rfl ?_;rintro l' H' ⟨rfl,rfl⟩;conv=>whnf))
       all_goals first
        |exact absurd (show false=true by assumption) (by decide)
        |exact absurd (show true=false by assumption) (by decide)
        |exact⟨(k+1,true),⟨hk2,by simp only;rw[hde];rfl⟩,by simp only;omega,Le.mk [] (by simp) (by simp) (by simp) (.r (.r (.cons (.p (Sub.tt rfl)) (.r (.r .nil))))) (.cons rfl (.refl _) (.cons rfl (.refl _) (.cons rfl (.refl _) (.cons rfl (.of_eq (q9e (Chunk.own 22 1) hup)) (.cons rfl (.refl _) .nil)))))⟩
        |exact⟨(k+1,true),⟨hk2,by simp only;rw[hde];rfl⟩,by simp only;omega,Le.mk [] (by simp) (by simp) (by simp) (.r (.r (.r (.r (.r .nil))))) (.cons rfl (.refl _) (.cons rfl (.refl _) (.cons rfl (.refl _) (.cons rfl (.of_eq (q9e (Chunk.own 22 1) hup)) (.cons rfl (.refl _) .nil)))))⟩
        |exact⟨(k+1,false),⟨hk2,by simp only;rw[hde];rfl⟩,by simp only;omega,Le.mk [] (by simp) (by simp) (by simp) (.r (.r (.r (.r (.r .nil))))) (.cons rfl (.refl _) (.cons rfl (.refl _) (.cons rfl (.refl _) (.cons rfl (.of_eq (q9e (Chunk.own 22 1) hup)) (.cons rfl (.refl _) .nil)))))⟩
        |exact⟨(k+1,false),⟨hk2,by simp only;rw[hde];rfl⟩,by simp only;omega,Le.mk [] (by simp) (by simp) (by simp) (.r (.r (.cons (.p (Sub.ff rfl)) (.r (.r .nil))))) (.cons rfl (.refl _) (.cons rfl (.refl _) (.cons rfl (.refl _) (.cons rfl (.of_eq (q9e (Chunk.own 22 1) hup)) (.cons rfl (.refl _) .nil)))))⟩
      have hmem:(sheetOf p).l[k].s∈YZ p:=by rw[<-JZ];exact q7s.2 ⟨_,q7i hk2,rfl⟩
      have hDl:=Gg p O;have hKl:k=(((dfB p O).take k).map eStrs).length:=by rw[q7f,q8n];omega
      have hOl:p.procs.length=(O.map eStrs).length:=by rw[q7f,hO.len]
      have hIl:p.procs.length=((List.replicate p.procs.length ([]:List Str)).map eStrs).length:=by rw[q7f,q9d]
      have hd0:=Yz ⟨sheetOf p,wysB p,(dfB p O).take k,[],List.replicate p.procs.length [],O⟩ (sheetOf p).l[k].s (fun h4=>hO.call hc rfl rfl hmem h4);rw[TI rfl rfl]at hd0;have hd1:SpecH prog 87 ([AV.ip (Book.cells ⟨sheetOf p,wysB p,(dfB p O).take k,[],List.replicate p.procs.length [],O⟩),.agg (sheetOf p).l[k].s.cells].map .p) [] (OneRow (Ky (PA (bkO p O) (sheetOf p).l[k].s)) (PA (bkO p O) (sheetOf p).l[k].s=[])):=hd0;have hdl:=Zp hc hO hmem;have hst:=Bl (L:=dfB p O) (k:=k) (by omega) (o:=WR (PA (bkO p O) (sheetOf p).l[k].s)) (by unfold dfB;rw[x1i]);generalize hds:PA (bkO p O) (sheetOf p).l[k].s=ds at*
      clear hd0;conv=>whnf
      repeat' (first|((first|refine dA ?_|refine q7p rfl ?_|refine aD ?_|refine bP ?_|(refine iA fun _=>?_)|refine wI ?_|refine x1m hKl rfl (by show(k+1)*24<=140737488355328;omega) (by show k+1<=9223372036854775807;omega) (fun x hx=>by rcases q7m.1 hx with rfl;exact⟨rfl,rfl⟩) ?_);conv=>whnf)|(apply bD<;>intro _<;>first|omega|conv=>whnf)|(refine E9 5 rfl hd1 (.cons (q1j rfl (.hd (q9e some MO) LP) (.hd rfl hKl) (.p Sub.nils) (.hd rfl hIl) (.hd rfl hOl)) (.cons (.p (Sub.refl _)) .nil)) (fun hnil=>?_) ?_<;>conv=>whnf)|(refine CallK.nil 5 9 1 rfl (.row .nil) ?_;refine CallK.heap [(1000,5)] 0 (q8w (q8k _) q8c) (by refine q8x (j:=5) rfl rfl ?_ ?_;exact CSub.refl _;exact q8a) (YP [] (by simp)) rfl rfl ?_;rintro l' H' ⟨rfl,rfl⟩;conv=>whnf)|(refine CallK.heap [(1000,5)] 0 (q8w (q8k _) q8c) (by refine q8x (j:=5) rfl rfl ?_ ?_;exact CSub.refl _;exact q8a) (YP ds (by omega)) rfl rfl ?_;rintro l' H' ⟨rfl,rfl⟩;conv=>whnf)|(refine q7p ?_ ?_<;>conv=>whnf))
      all_goals first
       |exact⟨k+1,hk2,by omega,Le.of_eq (by rw[hst,hnil];rfl)⟩
       |exact⟨k+1,hk2,by omega,Le.of_eq (by rw[hst];rfl)⟩
def UR(p:Pg)(n:Str):Int:=Qj (fun f=>f.name==n) p.procs
noncomputable def Yh(p:Pg)(n:Str):List Str:=if QO p=true/\0<=UR p n then(QG p).outs.getD (UR p n).toNat []else []
noncomputable def q3q(p:Pg)(n:Str):List Str:=if QO p=true/\0<=UR p n then(QG p).ins.getD (UR p n).toNat []else []
noncomputable def NI(p:Pg)(id:Int):List Str:=if QO p=true/\1<=id/\id<=(sheetOf p).l.length then(QG p).defs.getD (id-1).toNat []else []
noncomputable def LF(p:Pg)(id:Int):List Str:=if QO p=true/\1<=id/\id<=(sheetOf p).l.length then(QG p).uses.getD (id-1).toNat []else []
theorem Qt(h:0<=UR p n):(UR p n).toNat<p.procs.length:=by
 unfold UR Qj at h⊢;cases hq:p.procs.any fun f=>f.name==n with
 | true=>
   rw[q8g];obtain⟨x,h1,h2⟩:=q9c.1 hq;have:=List.findIdx_lt_length_of_exists (p:=fun f:Pr=>f.name==n) ⟨x,h1,h2⟩;simpa using this
 | false=>
   rw[hq,q8b]at h;omega
theorem Nm(h:k<O.length):(O.map eStrs)[k]?=some (eStrs (O.getD k [])):=by
 rw[q7l,q7h,q7g h];rfl
theorem RP(p:Pg)(hf:Fit p)(n:Str):SpecP prog 21 [.agg p.cells,.str n] (fun r=>r=eStrs (Yh p n)):=by
 refine sB Fy func21 rfl call21 ?_;conv=>whnf
 have hB:=DU p hf;cases hc:QO p with
 | false=>
   have e:Yh p n=[]:=by unfold Yh;rw[if_neg (by rw[hc];simp)]
   rw[e];have hB2:=hB.mono (R':=fun r=>r=.nilp) fun r hr=>hr.2 hc;repeat' (refine cP hB2 ?_;conv=>whnf)
   all_goals first
    |contradiction
    |exact⟨_,.p Sub.nils,rfl⟩
 | true=>
   have hB2:=hB.mono (R':=fun r=>r=.ip (QG p).cells) fun r hr=>hr.1 hc;have hR:=WE hc;have hO:=(Gz hc).1.len;have hs:(QG p).s.p=p:=by rw[hR.s];exact(QV p).1
   have hPr:=XF (QG p).s n;rw[hs]at hPr;have hPr2:SpecP prog 49 [.ip (QG p).s.cells,.str n] (fun r=>r=.int .i64 (UR p n)):=hPr;have hlt:=fun h=>Qt (p:=p) (n:=n) h;have hg:=fun h=>Nm (O:=(QG p).outs) (k:=(UR p n).toNat) (by rw[hO];exact hlt h);have e:Yh p n=if 0<=UR p n then(QG p).outs.getD (UR p n).toNat []else []:=by
    unfold Yh;by_cases h0:0<=UR p n
    ·rw[if_pos ⟨hc,h0⟩,if_pos h0]
    ·rw[if_neg (fun h=>h0 h.2),if_neg h0]
   rw[e];generalize UR p n=i at*
   generalize QG p=b at*
   by_cases h0:0<=i
   ·rw[if_pos h0];have hg:=hg h0;repeat' (first|((first|refine dA ?_|refine cP hB2 ?_|refine cP hPr2 ?_|(refine IdxK.at (k:=i.toNat) (by omega) hg rfl ?_));conv=>whnf)|(apply bD<;>intro _<;>first|omega|conv=>whnf))
    all_goals first
     |contradiction
     |exact RetK.p rfl
     |exact⟨_,.p (Sub.refl _),rfl⟩
   ·rw[if_neg h0];repeat' (first|((first|refine cP hB2 ?_|refine cP hPr2 ?_);conv=>whnf)|(apply bD<;>intro _<;>first|omega|conv=>whnf))
    all_goals first
     |contradiction
     |exact⟨_,.p Sub.nils,rfl⟩
theorem RB(p:Pg)(hf:Fit p)(id:Int):SpecP prog 28 [.agg p.cells,.int .i64 id] (fun r=>r=eStrs (NI p id)):=by
 refine sB Fu func28 rfl call28 ?_;conv=>whnf
 have hB:=DU p hf;cases hc:QO p with
 | false=>
   have e:NI p id=[]:=by unfold NI;rw[if_neg (by rw[hc];simp)]
   rw[e];have hB2:=hB.mono (R':=fun r=>r=.nilp) fun r hr=>hr.2 hc;repeat' (refine cP hB2 ?_;conv=>whnf)
   all_goals first
    |contradiction
    |exact⟨_,.p Sub.nils,rfl⟩
 | true=>
   have hB2:=hB.mono (R':=fun r=>r=.ip (QG p).cells) fun r hr=>hr.1 hc;have hR:=WE hc;have hD:(QG p).defs.length=(sheetOf p).l.length:=by rw[hR.defs];exact q7f _
   have hcn:=(XP hc).2.2;obtain⟨_,_,_,hsl,_⟩:=QV p;have hH:SpecP prog 52 [.ip (QG p).s.cells,.int .i64 id] (fun r=>r=.bool (decide (1<=id)&&decide (id<=(sheetOf p).l.length))):=by
    have h1:=KX (QG p).s id;rw[show(QG p).s.l=(sheetOf p).l by rw[hR.s]]at h1;exact h1
   have hg:=fun h=>Nm (O:=(QG p).defs) (k:=(id-1).toNat) h;have e:NI p id=if 1<=id/\id<=(sheetOf p).l.length then(QG p).defs.getD (id-1).toNat []else []:=by
    unfold NI;by_cases h0:1<=id/\id<=(sheetOf p).l.length
    ·rw[if_pos ⟨hc,h0⟩,if_pos h0]
    ·rw[if_neg (fun h=>h0 h.2),if_neg h0]
   rw[e];generalize(sheetOf p).l.length=sl at*
   generalize QG p=b at*
   by_cases h0:1<=id/\id<=(sl:Int)
   ·rw[if_pos h0];rw[show(decide (1<=id)&&decide (id<=(sl:Int)))=true by simp[h0]]at hH;have hg:=hg (by omega);repeat' (first|((first|refine wI ?_|refine cP hB2 ?_|refine cP hH ?_|(refine IdxK.at (k:=(id-1).toNat) (by omega) hg rfl ?_));conv=>whnf)|(apply bN<;>intro _<;>conv=>whnf))
    all_goals first
     |contradiction
     |exact RetK.p rfl
     |exact⟨_,.p (Sub.refl _),rfl⟩
   ·rw[if_neg h0];rw[show(decide (1<=id)&&decide (id<=(sl:Int)))=false by rw[Bool.and_eq_false_iff,q9s,q9s];omega]at hH;repeat' (first|((first|refine cP hB2 ?_|refine cP hH ?_);conv=>whnf)|(apply bN<;>intro _<;>conv=>whnf))
    all_goals first
     |contradiction
     |exact⟨_,.p Sub.nils,rfl⟩
theorem RN(p:Pg)(hf:Fit p)(id:Int):SpecP prog 25 [.agg p.cells,.int .i64 id] (fun r=>r=eStrs (LF p id)):=by
 refine sB Fj func25 rfl call25 ?_;conv=>whnf
 have hB:=DU p hf;cases hc:QO p with
 | false=>
   have e:LF p id=[]:=by unfold LF;rw[if_neg (by rw[hc];simp)]
   rw[e];have hB2:=hB.mono (R':=fun r=>r=.nilp) fun r hr=>hr.2 hc;repeat' (refine cP hB2 ?_;conv=>whnf)
   all_goals first
    |contradiction
    |exact⟨_,.p Sub.nils,rfl⟩
 | true=>
   have hB2:=hB.mono (R':=fun r=>r=.ip (QG p).cells) fun r hr=>hr.1 hc;have hR:=WE hc;have hD:(QG p).uses.length=(sheetOf p).l.length:=by rw[hR.uses];exact q7f _
   have hcn:=(XP hc).2.2;obtain⟨_,_,_,hsl,_⟩:=QV p;have hH:SpecP prog 52 [.ip (QG p).s.cells,.int .i64 id] (fun r=>r=.bool (decide (1<=id)&&decide (id<=(sheetOf p).l.length))):=by
    have h1:=KX (QG p).s id;rw[show(QG p).s.l=(sheetOf p).l by rw[hR.s]]at h1;exact h1
   have hg:=fun h=>Nm (O:=(QG p).uses) (k:=(id-1).toNat) h;have e:LF p id=if 1<=id/\id<=(sheetOf p).l.length then(QG p).uses.getD (id-1).toNat []else []:=by
    unfold LF;by_cases h0:1<=id/\id<=(sheetOf p).l.length
    ·rw[if_pos ⟨hc,h0⟩,if_pos h0]
    ·rw[if_neg (fun h=>h0 h.2),if_neg h0]
   rw[e];generalize(sheetOf p).l.length=sl at*
   generalize QG p=b at*
   by_cases h0:1<=id/\id<=(sl:Int)
   ·rw[if_pos h0];rw[show(decide (1<=id)&&decide (id<=(sl:Int)))=true by simp[h0]]at hH;have hg:=hg (by omega);repeat' (first|((first|refine wI ?_|refine cP hB2 ?_|refine cP hH ?_|(refine IdxK.at (k:=(id-1).toNat) (by omega) hg rfl ?_));conv=>whnf)|(apply bN<;>intro _<;>conv=>whnf))
    all_goals first
     |contradiction
     |exact RetK.p rfl
     |exact⟨_,.p (Sub.refl _),rfl⟩
   ·rw[if_neg h0];rw[show(decide (1<=id)&&decide (id<=(sl:Int)))=false by rw[Bool.and_eq_false_iff,q9s,q9s];omega]at hH;repeat' (first|((first|refine cP hB2 ?_|refine cP hH ?_);conv=>whnf)|(apply bN<;>intro _<;>conv=>whnf))
    all_goals first
     |contradiction
     |exact⟨_,.p Sub.nils,rfl⟩
section
variable {a b:Str}{p:Pg}{i:Nat}{f:Pr}
end
section
variable {P:Program}{T:Tab}{N:Nat}{σ:Mem}{β:Lab}{a:Act}{w:World}{o:Oper}{K:St->Prop}{s:St}
end
def dP:Pg:=⟨[[103]],[
 ⟨[109,97,105,110],[],[[118]],[
   .mk 1 1 [] [118] [] (.mk 1 2 [] []) false [] [] [],
   .mk 2 4 [] [] [112] (.mk 0 0 [] []) false [⟨false,[],.mk 1 3 [] []⟩,⟨true,[118],.mk 0 0 [] []⟩] [] [],
   .mk 3 3 [] [] [] (.mk 2 0 [118] []) false [] [] [],
   .mk 4 3 [] [] [] (.mk 2 0 [103] []) false [] [] []],[]⟩,
 ⟨[112],[⟨[120],false⟩,⟨[121],true⟩],[],[
   .mk 5 2 [] [120] [] (.mk 0 0 [] []) false [] [] [],
   .mk 6 5 [] [] [] (.mk 12 0 [] [.mk 2 0 [121] [],.mk 1 9 [] []]) false [] [.mk 7 10 [] [101] [] (.mk 0 0 [] []) false [] [] []] [],
   .mk 8 9 [] [] [] (.mk 2 0 [103] []) true [] [] []],[[101]]⟩]⟩
instance:DecidableRel ltT:=fun a b=>inferInstanceAs (Decidable (Op.bytesLess a b=true))
def q3r(m l:List Str):Bool:=decide (m.Pairwise ltT)&&m.all (fun s=>inS l s)&&l.all (fun s=>inS m s)
theorem Gc{m l:List Str}(h:q3r m l=true):WR l=m:=by
 unfold q3r at h;simp only[q8j,q8e,q9b]at h;exact(EV h.1.1 fun s=>⟨fun hs=>UH.1 (h.1.2 s hs),fun hs=>UH.1 (h.2 s hs)⟩).symm
def Oy:List (List Str)->List (List Str)->Bool
 |[],[]=>true
 |m::ms,l::ls=>q3r m l&&Oy ms ls
 |_,_=>false
theorem Vl:∀{ms ls:List (List Str)},Oy ms ls=true->ls.map WR=ms
 |[],[],_=>rfl
 |[],_::_,h=>by cases h
 |_::_,[],h=>by cases h
 | m::ms,l::ls,h=>by
   rw[Oy,q8j]at h;rw[q8f,Gc h.1,Vl h.2]
theorem S2(h:Oy D ((sheetOf p).l.map fun it=>PA (bkO p O) it.s)=true):dfB p O=D:=by
 have h1:=Vl h;rw[x1o]at h1;exact h1
theorem OI(h:Oy U ((sheetOf p).l.map fun it=>PR (bkI p I) it.s)=true):usB p I=U:=by
 have h1:=Vl h;rw[x1o]at h1;exact h1
def q6w(lv:List Bool)(p:Pg)(i:Nat)(f:Pr)(D:List (List Str)):List Str:=(itsOf p i f).flatMap fun it=>bif lv.getD (ixI p i f it.s.id).toNat false then(HV D it.s.id).filter (outB p f)else []
def q6z(prs:List (Int×Int))(p:Pg)(i:Nat)(f:Pr)(D U:List (List Str))(o:List Str)(x:Str):Bool:=(HU 0 (ZN (QC (QU f.body+2) (prs.filter fun t=>HJ p i f D x t.1)).1 [0])).any (hitN p i f U o x)
theorem SO{lv0 lv1:List Bool}{f0 f1:Pr}(hp:p.procs=[f0,f1])(h0:(QQ p 0 f0).live=lv0)(h1:(QQ p 1 f1).live=lv1)(h:Oy O [q6w lv0 p 0 f0 D,q6w lv1 p 1 f1 D]=true):otB p D=O:=by
 rw[<-Vl h,<-h0,<-h1];unfold otB;have e0:prA p 0=f0:=JM (by rw[hp];rfl);have e1:prA p 1=f1:=JM (by rw[hp];rfl);rw[hp];show [otA p D 0,otA p D 1]=_;unfold otA;rw[e0,e1];rfl
theorem Oc{q3x q3z:List (Int×Int)}{f0 f1:Pr}(hp:p.procs=[f0,f1])(h0:UT (QQ p 0 f0) f0=q3x)(h1:UT (QQ p 1 f1) f1=q3z)(h:Oy I [(p.globals++[KE]).filter (q6z q3x p 0 f0 D U (O.getD 0 [])),(p.globals++[KE]).filter (q6z q3z p 1 f1 D U (O.getD 1 []))]=true):niB p D U O=I:=by
 rw[<-Vl h,<-h0,<-h1];unfold niB;have e0:prA p 0=f0:=JM (by rw[hp];rfl);have e1:prA p 1=f1:=JM (by rw[hp];rfl);rw[hp];show [niA p D U O 0,niA p D U O 1]=_;unfold niA L1;rw[e0,e1];rfl
def Pw:Str:=[103]
def vS:Str:=[118]
def yS:Str:=[121]
def xS:Str:=[120]
theorem q3g:DC (QQ someP 0 f0) f0=[⟨0,1,1⟩,⟨1,2,1⟩,⟨2,3,1⟩,⟨3,4,1⟩,⟨4,-1,1⟩]:=by
 unfold DC UB;rw[q2d,q2u];exact Lu (by unfold okSt;decide) (by decide) (by decide) (by decide)
theorem OF:UT (QQ someP 0 f0) f0=[(0,1),(1,2),(2,3),(3,4),(4,5)]:=by
 unfold UT;rw[q3g]
 kernel_rfl
theorem q3i:UT (QQ someP 1 f1) f1=[(0,1),(1,2),(2,3),(2,4),(3,5),(4,5)]:=by
 unfold UT;rw[q3h]
 kernel_rfl
theorem Aw:(QQ someP 0 f0).live=[true,true,true,true,true,true]:=by
 unfold QQ;simp only[q1e]
 kernel_rfl
theorem q0f:(QQ someP 1 f1).live=[true,true,true,true,true,true]:=by
 unfold QQ;simp only[q1i]
 kernel_rfl
def sO:List (List Str):=[[Pw],[yS]]
def sD0:List (List Str):=[[vS],[Pw],[],[],[yS],[],[],[EW]]
def sD:List (List Str):=[[vS],[Pw,vS],[],[],[yS],[],[],[EW]]
def sU:List (List Str):=[[],[vS],[vS],[Pw],[xS,yS],[yS],[],[yS]]
theorem some_book:BookR someP ⟨sheetOf someP,wysB someP,sD,sU,[[],[]],sO⟩:=by
 have d0:dfB someP [[],[]]=sD0:=S2 (by kernel_rfl);have o1:otB someP sD0=sO:=SO (f0:=f0) (f1:=f1) rfl Aw q0f (by kernel_rfl);have d1:dfB someP sO=sD:=S2 (by kernel_rfl);have o2:otB someP sD=sO:=SO (f0:=f0) (f1:=f1) rfl Aw q0f (by kernel_rfl);have u0:usB someP [[],[]]=sU:=OI (by kernel_rfl);have i1:niB someP sD sU sO=[[],[]]:=Oc (f0:=f0) (f1:=f1) rfl OF q3i (by kernel_rfl);refine⟨rfl,rfl,⟨1,?_⟩,?_,d1.symm,⟨0,rfl⟩,?_,u0.symm⟩
 ·show sO=otB someP (dfB someP [[],[]]);rw[d0,o1]
 ·show otB someP (dfB someP sO)=sO;rw[d1,o2]
 ·show niB someP sD (usB someP [[],[]]) sO=[[],[]];rw[u0,i1]
def g0:Pr:=dP.procs[0]'(by decide)
def g1:Pr:=dP.procs[1]'(by decide)
theorem Ow(h:QO p=true)(k:Int):(allR p).length<=1000/\(Jf p k).length<=1000000:=by
 have h1:=(U3 (QD h).1).len;refine⟨by omega,?_⟩;unfold Jf;rw[q7f];have:=q9l (Nv k) (allR p);omega
theorem Bi{m:Int}(h:K9 p m=true):QO p=true:=by
 unfold K9 at h;rw[q8j]at h;exact h.1
theorem Uw(h:QO p=true)(hk:p.procs[k]?=some f):UR p f.name=(k:Nat)/\Yh p f.name=(QG p).outs.getD k []/\q3q p f.name=(QG p).ins.getD k []:=by
 have hm:f.name∈procsN p:=q7s.2 ⟨f,q8u hk,rfl⟩;obtain⟨m,hm1,h1,_,h3,h4⟩:=Gt hm;obtain⟨rfl,_⟩:=Ln h (q7g hm1) hk h4;have e:UR p f.name=(m:Nat):=h1;refine⟨e,?_,?_⟩
 ·unfold Yh;rw[if_pos ⟨h,by omega⟩,e];rfl
 ·unfold q3q;rw[if_pos ⟨h,by omega⟩,e];rfl
theorem q2p:∀l:List Arg,(l.flatMap usA).length<=X6 l
 |[]=>by simp[X6]
 | x::r=>by
   have h1:=q2p r;have h2:=Zi x.x;rw[q9m,q7b];have h3:(usA x).length<=1+(XL x.x).length:=by
    unfold usA;rw[q7b];split<;>simp
   simp only[X6];omega
theorem q2n(hf:Fit p)(hc:QO p=true)(h:OkI p I)(hk:k<(sheetOf p).l.length):(PR (bkI p I) (sheetOf p).l[k].s).length<=30000:=by
 have h1:=K8 hf hk;generalize(sheetOf p).l[k].s=t at*
 have h2:=Zi t.x;have h3:=q2p t.args;have h4:(inAt (bkI p I) t).length<=25:=h.len25 hc (caI (bkI p I).s.p t).toNat;have h5:wX t.x+X6 t.args<=20000:=by
  cases t;simp only[wS,S.x,S.args]at h1⊢;omega
 have h6:(Rj t).length<=(XL t.x).length+1:=by
  unfold Rj;rw[q7b];split<;>simp
 unfold PR;split
 ·simp only[q7b];omega
 ·omega
theorem Ze(h:isName n=true):n.length<=8:=by
 unfold isName at h;split at h
 ·rename_i h1;exact h1.2
 ·cases h
theorem q0c(hc:QO p=true)(h:comB p n=true):n.length<=8:=by
 unfold comB at h;rw[x1b]at h;rcases h with h|h
 ·rw[show n=KE by simpa using h];decide
 ·obtain⟨s,hs,he⟩:=q9c.1 h;rw[show n=s by simpa using he];exact Ze (Ds hc hs)
theorem q3f(hc:QO p=true)(hf:f∈p.procs){t:S}(ht:t∈flL f.body)(hn:n∈PA (bkO p O) t):n.length<=8:=by
 have hnm:t.kind≠10->t.name.length<=8:=fun h10=>by
  by_cases h0:t.name=[]
  ·rw[h0];simp
  ·refine Ze (Bc hc hf ht ?_);unfold ZP FK;have:(decide (t.kind≠10) && !(t.name==[]))=true:=by simp[h10,h0]
   rw[this];simp
 unfold PA at hn;split at hn
 ·rw[q7m.1 hn];exact hnm (by omega)
 split at hn
 ·rcases q7r.1 hn with rfl|hn
  ·exact hnm (by omega)
  ·rw[q7m.1 hn];decide
 split at hn
 ·rw[q7m.1 hn];decide
 split at hn
 ·unfold IR at hn;rcases q7a.1 hn with hn|hn
  ·rcases q7a.1 hn with hn|hn
   ·split at hn
    ·cases hn
    ·rw[q7m.1 hn];exact hnm (by omega)
   ·obtain⟨x,hx,h1,rfl⟩:=Hu.1 hn;refine Ze (Bc hc hf ht ?_);have hm:x.1∈t.args:=(List.of_mem_zip (x3c hx)).1;unfold ZP;refine q9r _ (q8r.2 ⟨x.1,hm,?_⟩);unfold JN;rw[h1.1];simp
  ·exact q0c hc (q8t.1 hn).2
 ·cases hn
noncomputable def VS(p:Pg)(i:Nat)(f:Pr)(a:Nat):List Str:=Ms p i f (QG p).defs ((QG p).ins.getD i []) a
noncomputable def Rz(p:Pg)(i:Nat)(f:Pr)(a:Nat):List Str:=EA p i f (QG p).uses ((QG p).outs.getD i []) a
theorem q3l(hc:QO p=true){i:Nat}(hj:p.procs[i]?=some f)(a:Nat)(hn:n∈VS p i f a):n.length<=8:=by
 have hb:=WE hc;have hfm:=q8u hj;unfold VS Ms at hn;split at hn
 ·rw[XR]at hn;rcases q7a.1 hn with hn|hn
  ·exact q0c hc ((Gz hc).2.sub i n hn)
  ·refine Ze (Lg hc hfm (q9u _ hn))
 split at hn
 ·cases hn
 cases hlv:(QQ p i f).live.getD a false with
 |false=>rw[hlv]at hn;cases hn
 | true=>
   rw[hlv,q8g,hb.defs]at hn;rw[q7h]at hn;unfold dfB at hn;rw[q7l]at hn;cases hq:(sheetOf p).l[QM p.procs i+a-1]?with
   |none=>rw[hq]at hn;cases hn
   | some it=>
     rw[hq]at hn;have hn:n∈WR (PA (bkO p (QG p).outs) it.s):=hn;rw[XR]at hn;have ht:it.s∈YZ p:=by rw[<-JZ];exact x1h (q8u hq)
     obtain⟨g,hg,ht⟩:=q8r.1 ht;exact q3f hc hg ht hn
theorem N3(hf:Fit p)(hc:QO p=true){i:Nat}(hj:p.procs[i]?=some f):
  FlB (QG p) i (QQ p i f) (QU f.body+2) (DC (QQ p i f) f) (UT (QQ p i f) f) (VS p i f) (Rz p i f) (fun c=>QH p i (QU f.body+2:Nat) c):=by
 have hb:=WE hc;obtain⟨hOo,hOi⟩:=Gz hc;have hT:=q0w hc hj;have hil:i<p.procs.length:=(q7t.1 hj).1;have hW:(QG p).ways[i]?=some (QQ p i f):=by rw[hb.ways,F3 hil,JM hj]
 have hI:(QG p).ins[i]?=some ((QG p).ins.getD i []):=by rw[q7h,q7g (by rw[hOi.len];exact hil)];rfl
 have hO:(QG p).outs[i]?=some ((QG p).outs.getD i []):=by rw[q7h,q7g (by rw[hOo.len];exact hil)];rfl
 have hDl:(QG p).defs.length=(sheetOf p).l.length:=by rw[hb.defs];exact Gg p _
 have hUl:(QG p).uses.length=(sheetOf p).l.length:=by rw[hb.uses];exact q7f _
 have hI25:=hOi.len25 hc i;have hO25:=hOo.len25 hc i;have hp8:f.params.length<=8:=((U3 (QD hc).1).pr f (q8u hj)).1;have hdr:∀d∈(QG p).defs,d.Pairwise ltT/\d.length<=34:=fun d hd=>by
  rw[hb.defs]at hd;obtain⟨it,hi,rfl⟩:=q7s.1 hd;have ht:it.s∈YZ p:=by rw[<-JZ];exact x1h hi
  exact⟨ZK _,q8i (YI _) (Zp hc hOo ht)⟩
 have hur:∀d∈(QG p).uses,d.Pairwise ltT/\d.length<=30000:=fun d hd=>by
  rw[hb.uses]at hd;obtain⟨it,hi,rfl⟩:=q7s.1 hd;obtain⟨k,hk,rfl⟩:=x0w.1 hi;exact⟨ZK _,q8i (YI _) (q2n hf hc hOi hk)⟩
 have hcn:=XP hc;have hcb:=NS _ _ (q8u hj);have hg34:∀a,(VS p i f a).length<=34:=fun a=>AR (fun d hd=>(hdr d hd).2) hI25 hp8 a;have hgr:∀a,(VS p i f a).Pairwise ltT:=fun a=>Dt (fun d hd=>(hdr d hd).1) a;have hgn:∀a,(VS p i f a).Nodup:=fun a=>UF (hgr a);have hkey:∀y:Str,y∈(mapG (prsG (VS p i f) (QU f.body+2))).map Prod.fst->y.length<=8:=fun y hy=>by
  obtain⟨a,ha⟩:=E5 _ hy;exact q3l hc hj a (C5 ha).2
 have hdl:=Gu hc hj;refine⟨hW,hT.hn,rfl,Z2 _ f _ hT,YG _ f hT.hj hT.hc (by have:=hT.hn;have:=hT.hw;omega) _ (by omega),?_,?_,?_,?_,?_,?_,?_,?_,?_⟩
 ·exact Vj (QG p) p i f _ hT.hn hW rfl (VS p i f) (fun a ha=>Vv (QG p) p hb.s hc i f hj hW _ hI (by omega) hDl a ha) fun a=>by have:=hg34 a;omega
 ·exact fun c h=>Vu (QG p) p hb.s hc i f hj hW _ hO (by omega) hUl c h
 ·exact fun at_ h1 h2=>(Vy (QG p) i _ hW _ hT.hn rfl (UT (QQ p i f) f) (by show(List.map _ _).length<=_;rw[q7f];omega) (GH hc hj) at_ h1 h2).mono fun r hr=>hr.eq
 ·exact fun c h=>WY _ f hT.hj hT.hc (by have:=hT.hn;have:=hT.hw;omega) c (by have:=hT.hn;omega)
 ·intro c;refine⟨CK (fun d hd=>(hur d hd).1) c,?_⟩;unfold Rz EA;split
  ·refine q8i (YI _) ?_;rw[q7b,q8p];omega
  split
  ·simp
  cases(QQ p i f).live.getD c false with
  |false=>simp
  |true=>exact q8i (MJ (Q:=fun l=>l.length<=30000) (by simp) (fun d hd=>(hur d hd).2) _) (by decide)
 ·intro s hs;obtain⟨nm,hnm,hs⟩:=q8r.1 hs;have h8:=hkey nm hnm;unfold outN at hs;obtain⟨c,hcr,hs⟩:=q8r.1 hs;obtain⟨x,_,hs⟩:=q8r.1 hs;split at hs
  ·rw[q7m.1 hs];have hle:QM p.procs i<=1000:=q8i (SR _ _) (by omega);have hpl:∀c:Nat,c<QU f.body+2->QH p i (QU f.body+2:Nat) c≠9223372036854775807:=fun c h=>by
    unfold QH loI;split
    ·decide
    split
    ·decide
    ·omega
   refine⟨hpl _ ?_,hpl _ (q9q.1 hcr),by show nm.length<=maxLen;unfold maxLen;omega⟩;rw[q7h];cases hq:(atN (VS p i f) (QU f.body+2) nm)[x.toNat]?with
   |none=>show 0<_;omega
   |some a=>exact Yo (q8u hq)
  ·cases hs
 ·exact Sw (by omega) hg34 hgn
 ·intro nm;rw[D7 hgn];exact q8i (q9l _ _) (by rw[x0h];exact hT.hn)
 ·exact fun y hy=>by have:=hkey y hy;unfold maxLen;omega
noncomputable def XM(p:Pg)(i:Nat)(f:Pr):List Fl:=VJ (((mapG (prsG (VS p i f) (QU f.body+2))).map Prod.fst).flatMap (outN (VS p i f) (Rz p i f) (fun c=>QH p i (QU f.body+2:Nat) c) (QU f.body+2) (UT (QQ p i f) f)))
noncomputable def ZR(p:Pg)(n:Str):List Fl:=if QO p=true/\0<=UR p n then XM p (UR p n).toNat (prA p (UR p n).toNat)else []
theorem DV(hf:Fit p)(hc:QO p=true){i:Nat}(hj:p.procs[i]?=some f):(XM p i f).length<=1000000000:=by
 unfold XM;rw[Kz];exact(N3 hf hc hj).cnt
theorem J1(hf:Fit p)(hc:QO p=true){i:Nat}(hj:p.procs[i]?=some f):SpecP prog 50 [.ip (QG p).cells,.int .i64 i] (fun r=>r=.sl ((XM p i f).map LN)):=Vw _ i _ _ _ _ _ _ _ (N3 hf hc hj)
theorem Hv(p:Pg)(hf:Fit p)(n:Str):SpecP prog 14 [.agg p.cells,.str n] (fun r=>r=.sl ((ZR p n).map LN)):=by
 refine sB Rr func14 rfl call14 ?_;conv=>whnf
 have hB:=DU p hf;cases hc:QO p with
 | false=>
   have e:ZR p n=[]:=by unfold ZR;rw[if_neg (by rw[hc];simp)]
   rw[e];have hB2:=hB.mono (R':=fun r=>r=.nilp) fun r hr=>hr.2 hc;repeat' (first|((first|(refine iM fun _=>?_)|refine dA ?_|refine q7p rfl ?_|refine aD ?_|refine aR ?_|refine bP ?_|(refine iA fun _=>?_)|refine IdxK.xs (by omega) ?_|refine QX (by omega) ?_|(refine ByteK.at (by omega) ?_)|refine wI ?_|refine cP hB2 ?_);conv=>whnf)|(apply bD<;>intro _<;>first|omega|conv=>whnf)|(apply bE<;>intro _<;>first|omega|conv=>whnf)|(apply bN<;>intro _<;>conv=>whnf)|(apply bB<;>intro _<;>conv=>whnf))
   all_goals first
    |contradiction
    |exact⟨_,.p Sub.nils,rfl⟩
 | true=>
   have hB2:=hB.mono (R':=fun r=>r=.ip (QG p).cells) fun r hr=>hr.1 hc;have hR:=WE hc;have hs:(QG p).s.p=p:=by rw[hR.s];exact(QV p).1
   have hPr:=XF (QG p).s n;rw[hs]at hPr;have hPr2:SpecP prog 49 [.ip (QG p).s.cells,.str n] (fun r=>r=.int .i64 (UR p n)):=hPr;have e:ZR p n=if 0<=UR p n then XM p (UR p n).toNat (prA p (UR p n).toNat)else []:=by
    unfold ZR;by_cases h0:0<=UR p n
    ·rw[if_pos ⟨hc,h0⟩,if_pos h0]
    ·rw[if_neg (fun h=>h0 h.2),if_neg h0]
   rw[e];by_cases h0:0<=UR p n
   ·rw[if_pos h0];have hlt:=Qt h0;have hFl:=J1 hf hc (MA hlt);have hLl:=DV hf hc (MA hlt);have hi:(((UR p n).toNat:Nat):Int)=UR p n:=by omega
    rw[hi]at hFl;generalize XM p (UR p n).toNat (prA p (UR p n).toNat)=L at*
    generalize UR p n=i at*
    generalize QG p=b at*
    repeat' (first|((first|(refine iM fun _=>?_)|refine dA ?_|refine q7p rfl ?_|refine aD ?_|refine aR ?_|refine bP ?_|(refine iA fun _=>?_)|refine IdxK.xs (by omega) ?_|refine QX (by omega) ?_|(refine ByteK.at (by omega) ?_)|refine wI ?_|refine cP hB2 ?_|refine cP hPr2 ?_|refine cP hFl ?_);conv=>whnf)|(apply bD<;>intro _<;>first|omega|conv=>whnf)|(apply bE<;>intro _<;>first|omega|conv=>whnf)|(apply bN<;>intro _<;>conv=>whnf)|(apply bB<;>intro _<;>conv=>whnf)|(refine q7p ?_ ?_<;>conv=>whnf))
    all_goals try (exfalso;omega)
    have hLm:(L.map LN).length=L.length:=q7f _;refine LoopK.inv QK (fun j:Nat=>⟨[(6,.hd 0 0 (L.take j).length),(29,.p (.sl (L.map LN))),(30,.p (.int .i64 (L.map LN).length)),(31,.p (.int .i64 j))],[(0,.own 34 3 ((L.take j).map LN))]⟩) (fun j=>j<=L.length) (fun j=>L.length-j) 0
     (Le.mk [(0,.own 34 3 [])] (by simp[Chunk.new0];rfl) (by simp) (by simp) (.cons (.nil q7d) (.r (.r (.r .nil)))) (.new q7d .nil)) (q7c _) ?_
    intro j hj;rcases q7e j L.length with h1|h1
    ·have hst:=q8q h1;have eL:(L.map LN)[j]?=some (.agg L[j].cells):=by rw[q7l,q7g h1];rfl
     have hal:(L.take j).length<=1000000000:=by rw[q8n];omega
     generalize L.take j=acc at*
     have ham:(acc.map LN).length=acc.length:=q7f _;conv=>whnf
     repeat' (first|((first|(refine iM fun _=>?_)|refine dA ?_|refine q7p rfl ?_|refine aD ?_|refine aR ?_|refine bP ?_|(refine iA fun _=>?_)|refine IdxK.xs (by omega) ?_|refine QX (by omega) ?_|(refine ByteK.at (by omega) ?_)|refine wI ?_|refine x1m ham.symm rfl (by show(acc.length+1)*32<=140737488355328;omega) (by show acc.length+1<=9223372036854775807;omega) (fun x hx=>by rcases q7m.1 hx with rfl;exact⟨rfl,rfl⟩) ?_);conv=>whnf)|(apply bD<;>intro _<;>first|omega|conv=>whnf)|(apply bE<;>intro _<;>first|omega|conv=>whnf)|(apply bN<;>intro _<;>conv=>whnf)|(apply bB<;>intro _<;>conv=>whnf))
     all_goals first
      |exact⟨j+1,h1,by omega,Le.of_eq (by rw[hst,q7b,q7o];rfl)⟩
    ·rw[q8y h1];conv=>whnf
     repeat' (first|((first|(refine iM fun _=>?_)|refine dA ?_|refine q7p rfl ?_|refine aD ?_|refine aR ?_|refine bP ?_|(refine iA fun _=>?_)|refine IdxK.xs (by omega) ?_|refine QX (by omega) ?_|(refine ByteK.at (by omega) ?_)|refine wI ?_);conv=>whnf)|(apply bD<;>intro _<;>first|omega|conv=>whnf)|(apply bE<;>intro _<;>first|omega|conv=>whnf)|(apply bN<;>intro _<;>conv=>whnf)|(apply bB<;>intro _<;>conv=>whnf))
     all_goals first
      |exact⟨_,.hd rfl hLm.symm,rfl⟩
   ·rw[if_neg h0];generalize UR p n=i at*
    generalize QG p=b at*
    repeat' (first|((first|(refine iM fun _=>?_)|refine dA ?_|refine q7p rfl ?_|refine aD ?_|refine aR ?_|refine bP ?_|(refine iA fun _=>?_)|refine IdxK.xs (by omega) ?_|refine QX (by omega) ?_|(refine ByteK.at (by omega) ?_)|refine wI ?_|refine cP hB2 ?_|refine cP hPr2 ?_);conv=>whnf)|(apply bD<;>intro _<;>first|omega|conv=>whnf)|(apply bE<;>intro _<;>first|omega|conv=>whnf)|(apply bN<;>intro _<;>conv=>whnf)|(apply bB<;>intro _<;>conv=>whnf)|(refine q7p ?_ ?_<;>conv=>whnf))
    all_goals first
     |contradiction
     |exact⟨_,.p Sub.nils,rfl⟩
theorem Vz(b:Book)(i:Nat)(w:Way)(n:Nat)(L:List Step)(steps:List (Int×Int))(G T:Nat->List Str)(plc:Nat->Int)(F:FlB b i w n L steps G T plc):SpecP prog 60 [.ip b.cells,.int .i64 i] (fun r=>r=.tup [.int .i64 n,.int .i64 (prsG G n).length]):=by
 refine sB LT func60 rfl call60 ?_;conv=>whnf
 have hg2:(b.ways.map fun w=>AV.ip w.cells)[i]?=some (.ip w.cells):=by rw[q7l,F.hW];rfl
 have hGv:=F.giv;have hwn:=F.hwn;repeat' (first|((first|(refine iM fun _=>?_)|refine dA ?_|refine q7p rfl ?_|refine aD ?_|refine aR ?_|refine bP ?_|(refine iA fun _=>?_)|refine IdxK.xs (by omega) ?_|refine QX (by omega) ?_|(refine ByteK.at (by omega) ?_)|refine wI ?_|(refine IdxK.at (k:=i) rfl hg2 rfl ?_));conv=>whnf)|(apply bD<;>intro _<;>first|omega|conv=>whnf)|(apply bE<;>intro _<;>first|omega|conv=>whnf)|(apply bN<;>intro _<;>conv=>whnf)|(apply bB<;>intro _<;>conv=>whnf)|(refine CallK.heap [] 0 (by repeat' (first|exact q8c|refine q8w ?_ ?_|exact q8k _|exact q8m Sub.nils|exact q8m (Sub.tt rfl)|exact q8m (Sub.ff rfl)|exact q8m (Sub.int (by omega)))) q8a hGv rfl rfl ?_;rintro l' H' ⟨rfl,rfl⟩;conv=>whnf))
 all_goals first
  |exact⟨_,.p (Sub.tup (.cons (Sub.int hwn) (.cons (Sub.refl _) .nil))),rfl⟩
noncomputable def BV(p:Pg)(n:Str):Int×Int:=if QO p=true/\0<=UR p n then((QU (prA p (UR p n).toNat).body+2:Nat),((prsG (VS p (UR p n).toNat (prA p (UR p n).toNat)) (QU (prA p (UR p n).toNat).body+2)).length:Nat))else(0,0)
theorem Nd(p:Pg)(hf:Fit p)(n:Str):SpecP prog 30 [.agg p.cells,.str n] (fun r=>r=.tup [.int .i64 (BV p n).1,.int .i64 (BV p n).2]):=by
 refine sB Kc func30 rfl call30 ?_;conv=>whnf
 have hB:=DU p hf;cases hc:QO p with
 | false=>
   have e:BV p n=(0,0):=by unfold BV;rw[if_neg (by rw[hc];simp)]
   rw[e];have hB2:=hB.mono (R':=fun r=>r=.nilp) fun r hr=>hr.2 hc;repeat' (first|((first|(refine iM fun _=>?_)|refine dA ?_|refine q7p rfl ?_|refine aD ?_|refine aR ?_|refine bP ?_|(refine iA fun _=>?_)|refine IdxK.xs (by omega) ?_|refine QX (by omega) ?_|(refine ByteK.at (by omega) ?_)|refine wI ?_|refine cP hB2 ?_);conv=>whnf)|(apply bD<;>intro _<;>first|omega|conv=>whnf)|(apply bE<;>intro _<;>first|omega|conv=>whnf)|(apply bN<;>intro _<;>conv=>whnf)|(apply bB<;>intro _<;>conv=>whnf))
   all_goals first
    |contradiction
    |exact⟨_,.p (Sub.refl _),rfl⟩
 | true=>
   have hB2:=hB.mono (R':=fun r=>r=.ip (QG p).cells) fun r hr=>hr.1 hc;have hR:=WE hc;have hs:(QG p).s.p=p:=by rw[hR.s];exact(QV p).1
   have hPr:=XF (QG p).s n;rw[hs]at hPr;have hPr2:SpecP prog 49 [.ip (QG p).s.cells,.str n] (fun r=>r=.int .i64 (UR p n)):=hPr;by_cases h0:0<=UR p n
   ·have hlt:=Qt h0;have hFl:=Vz _ _ _ _ _ _ _ _ _ (N3 hf hc (MA hlt));have e:BV p n=(((QU (prA p (UR p n).toNat).body+2:Nat):Int),(((prsG (VS p (UR p n).toNat (prA p (UR p n).toNat)) (QU (prA p (UR p n).toNat).body+2)).length:Nat):Int)):=by unfold BV;rw[if_pos ⟨hc,h0⟩]
    rw[e];have hi:(((UR p n).toNat:Nat):Int)=UR p n:=by omega
    rw[hi]at hFl;generalize(prsG (VS p (UR p n).toNat (prA p (UR p n).toNat)) (QU (prA p (UR p n).toNat).body+2)).length=m at*
    generalize QU (prA p (UR p n).toNat).body+2=m2 at*
    generalize UR p n=i at*
    generalize QG p=b at*
    repeat' (first|((first|(refine iM fun _=>?_)|refine dA ?_|refine q7p rfl ?_|refine aD ?_|refine aR ?_|refine bP ?_|(refine iA fun _=>?_)|refine IdxK.xs (by omega) ?_|refine QX (by omega) ?_|(refine ByteK.at (by omega) ?_)|refine wI ?_|refine cP hB2 ?_|refine cP hPr2 ?_|refine cP hFl ?_);conv=>whnf)|(apply bD<;>intro _<;>first|omega|conv=>whnf)|(apply bE<;>intro _<;>first|omega|conv=>whnf)|(apply bN<;>intro _<;>conv=>whnf)|(apply bB<;>intro _<;>conv=>whnf)|(refine q7p ?_ ?_<;>conv=>whnf))
    all_goals first
     |contradiction
     |(exfalso;omega)
     |exact⟨_,.p (Sub.refl _),rfl⟩
   ·have e:BV p n=(0,0):=by unfold BV;rw[if_neg (fun h=>h0 h.2)]
    rw[e];generalize UR p n=i at*
    generalize QG p=b at*
    repeat' (first|((first|(refine iM fun _=>?_)|refine dA ?_|refine q7p rfl ?_|refine aD ?_|refine aR ?_|refine bP ?_|(refine iA fun _=>?_)|refine IdxK.xs (by omega) ?_|refine QX (by omega) ?_|(refine ByteK.at (by omega) ?_)|refine wI ?_|refine cP hB2 ?_|refine cP hPr2 ?_);conv=>whnf)|(apply bD<;>intro _<;>first|omega|conv=>whnf)|(apply bE<;>intro _<;>first|omega|conv=>whnf)|(apply bN<;>intro _<;>conv=>whnf)|(apply bB<;>intro _<;>conv=>whnf)|(refine q7p ?_ ?_<;>conv=>whnf))
    all_goals first
     |contradiction
     |exact⟨_,.p (Sub.refl _),rfl⟩
end Go.Ab
