/- give: a right program's book, its last loop walked. -/
import Derived.Test.YtonbdgcjnecapaaGreatRchR4
import Derived.Test.YtonbdgcjnecapaaGreatRchR17
import Derived.Test.YtonbdgcjnecapaaGreatRchR18
import Derived.Test.YtonbdgcjnecapaaGreatRchR20
import Derived.Test.YtonbdgcjnecapaaGreatRchR21
import Derived.Test.YtonbdgcjnecapaaGreatRchR22
set_option linter.all false
set_option maxRecDepth 100000
set_option maxHeartbeats 16000000
namespace Go.Ab
open Go.Proofs.Tryz
open Go.Proofs
variable {D I O U:List (List Str)}{N i k:Nat}{f:Pr}{p:Pg}
theorem JK(l:List Str)(n:l.length<=1000000000):SpecH prog 94 [.hd 1000 0 l.length] [(1000,.own 9 1 (l.map .str))] (fun r H=>r=.p (eStrs (WA l))/\H=[]):=by
 have h:=Y3 l n;refine⟨h.go,fun σ β w x c d g=>(h.ok σ β w x c d g).mono fun C w' B=>?_⟩;obtain⟨r,u,σ',β',H',A,⟨rfl,rfl⟩,v,t,j⟩:=B;generalize WA l=m at*
 obtain⟨s',rfl,z⟩:=Le.row (N:=1) (s:=⟨[(0,.hd 1000 0 m.length)],[(1000,.own 9 1 (m.map .str))]⟩) (k:=1000) (e:=9) (sz:=1) (es:=m.map .str) (zs:=[0]) rfl (K:=fun s=>s=⟨[(0,.p (eStrs m))],[]⟩)
  ⟨(x7z _).symm,rfl⟩
 obtain⟨σ2,β2,q,y⟩:=z σ' β' {tmps:=#[u],defers:=[]} w' ⟨rfl,rfl,fun i=>by
  match i with
  |0=>simpa[getS]using v
  |i+1=>exact .p (by simpa[getS]using Rep.any _),t⟩
 exact⟨.p (eStrs m),u,σ2,β2,[],A,⟨rfl,rfl⟩,by simpa[getS]using q.E 0,q.heap,j.trans y⟩
def Rk(p:Pg)(h j l:LV)(n:Nat):Chunk:=.obj 93 [.p (.ip (sheetOf p).cells),h,j,l,.hd 0 0 n,.hd 1 0 n]
def YD(L:List (List Str)):Chunk:=.own 22 1 (L.map eStrs)
def H3(p:Pg)(k:Nat):Chunk:=.own 122 1 (((wysB p).take k).map fun w=>.ip w.cells)
theorem Al(n:Nat):ElS (List.replicate n (AV.ofV (.slice none 0 0))) ((List.replicate n ([]:List Str)).map eStrs):=by
 refine⟨by simp,fun m x h=>?_⟩;rw[z0n,x8g]at h;rw[x8g];split at h
 ·cases h;rw[if_pos (by assumption)];refine⟨_,rfl,rfl,fun j c l=>?_⟩
  match j,l with
  |0,l=>cases l;exact⟨_,rfl,Sub.nils⟩
 ·cases h
def x0u{a:AV}{n:Nat}:
  Le N ⟨[(1,.p a),(3,.ptr 2 0)],[(2,.obj 93 [.p (.ip (sheetOf p).cells),.p (AV.ofS (.slice none 0 0)),.p (AV.ofS (.slice none 0 0)),.p (AV.ofS (.slice none 0 0)),.hd 0 0 n,.hd 1 0 n]),(1,.own 22 1 (List.replicate n (AV.ofV (.slice none 0 0)))),(0,.own 22 1 (List.replicate n (AV.ofV (.slice none 0 0))))]⟩
   ⟨[(1,.p a),(3,.ptr 2 0)],[(3,H3 p 0),(2,Rk p (.hd 3 0 0) (.p .nils) (.p .nils) n),(1,YD (List.replicate n [])),(0,YD (List.replicate n []))]⟩:=by
 refine Le.trans (Le.M (.same (.M (Al n) (.M (Al n) .nil)))) ?_;exact Le.mk [(3,H3 p 0)] (by simp[Chunk.new0,H3];rfl) (by simp) (by simp) (.r (.r .nil)) (.new x7v (.cons rfl (.obj (.r (.cons (.nil x7v) (.r (.r (.r (.r .nil))))))) (.cons rfl (.refl _) (.cons rfl (.refl _) .nil))))
def x2i(k:Nat):Nat:=if k=0 then 1 else if k=1 then 0 else k
theorem x2l{a:AV}{n:Nat}:
  Le N ⟨[(1,.p a),(3,.ptr 2 0)],[(2,.obj 93 [.p (.ip (sheetOf p).cells),.p (AV.ofS (.slice none 0 0)),.p (AV.ofS (.slice none 0 0)),.p (AV.ofS (.slice none 0 0)),.hd 1 0 n,.hd 0 0 n]),(1,.own 22 1 (List.replicate n (AV.ofV (.slice none 0 0)))),(0,.own 22 1 (List.replicate n (AV.ofV (.slice none 0 0))))]⟩
   ⟨[(1,.p a),(3,.ptr 2 0)],[(3,H3 p 0),(2,Rk p (.hd 3 0 0) (.p .nils) (.p .nils) n),(1,YD (List.replicate n [])),(0,YD (List.replicate n []))]⟩:=by
 refine Le.trans ?_ x0u;refine q4k x2i (fun k=>by unfold x2i;split<;>(try split)<;>simp_all) (fun j m q=>by unfold x2i;rw[if_neg (by omega),if_neg (by omega)]) (.r (.r .nil)) (fun j c h=>?_) (by simp);rcases x7f.1 h with l|h
 ·cases l;exact⟨_,x7v,CSub.refl _⟩
 rcases x7f.1 h with l|h
 ·cases l;exact⟨_,x7j _ (x7j _ x7v),CSub.refl _⟩
 rcases x7f.1 h with l|h
 ·cases l;exact⟨_,x7j _ x7v,CSub.refl _⟩
 ·cases h
theorem IU{W:List (List Str)}(h:k<W.length)(j:W.length=O.length):((W.take k++O.drop k).map eStrs).set k (eStrs W[k])=(W.take (k+1)++O.drop (k+1)).map eStrs:=by
 rw[<-x8o,z1x _ _ (by rw[x8q];omega),x8q,show k-min k W.length=0 by omega,x8b (by omega),z1g,x7r h,x8w];rfl
theorem q4q{W:List (List Str)}(h:k<O.length)(j:W.length=O.length):((W.take k++O.drop k).map eStrs)[k]?=some (eStrs O[k]):=by
 rw[x7k,x8f (by rw[x8q];omega),x8q,show k-min k W.length=0 by omega,x9f,z2x,x7x h];rfl
theorem IV{W:List (List Str)}(h:k<=O.length)(j:W.length=O.length):((W.take k++O.drop k).map eStrs).length=O.length:=by
 rw[x7z,x7u,x8q,x9i];omega
def q4x{W:List (List Str)}(m:k<W.length)(j:k<O.length):decide (W.take (k+1)=O.take (k+1))=(decide (W.take k=O.take k)&&decide (W[k]=O[k])):=by
 rw[x7r m,x7r j,<-Bool.decide_and];refine decide_eq_decide.2 ⟨fun h=>?_,fun h=>by rw[h.1,h.2]⟩;have l:=z2n h rfl;exact⟨l.1,by simpa using l.2⟩
theorem S8(j:chkB p=true)(h:OkI p I){t:S}(q:t∈VD p):(MZ (bkI p I) t).length<=1000000000:=by
 have r:=S7 t;unfold MZ;split
 ·rename_i m;have l:=(LX j q m).2;have u:=HZ IY t.args;have v:t.args.length*1048577<=8*1048577:=x9x _ l;have n:=h.len25 j (caI (bkI p I).s.p t).toNat;have x:(inAt (bkI p I) t).length<=25:=n;simp only[x7u];omega
 ·omega
def q0q{P:Program}{g:FuncId}{args:List LV}{j:Option Nat}{s:St}{K:St->Prop}{avs:List AV}{L:List Str}{nil:Prop}(k:Nat)(r:WV k s=true)(n:SpecH P g (avs.map .p) [] (OneRow (Kx L) nil))(ha:FrzL s.H args avs)(m:nil->setD N s.sl j (.p .nils) fun sl=>K ⟨sl,s.H⟩)(h:setD N s.sl j (.hd k 0 L.length) fun sl=>K ⟨sl,(k,.own 9 1 (L.map .str))::s.H⟩):CallK P N g args j s K:=
 UJ k r n ha m fun q e sz es l=>by
  obtain⟨rfl,rfl,rfl⟩:=l;rw[x7z];exact h
def q9h{H:Heap}{q r t:LV}{n:Nat}(d:getH H 2=some (Rk p q r t n))(u:Frz H q (.sl ((wysB p).map fun w=>.ip w.cells)))(v:Frz H r (.sl (D.map eStrs)))(x:Frz H t (.sl (U.map eStrs)))(y:Frz H (.hd 0 0 n) (.sl (I.map eStrs)))(z:Frz H (.hd 1 0 n) (.sl (O.map eStrs))):Frz H (.ptr 2 0) (.ip (Book.cells ⟨sheetOf p,wysB p,D,U,I,O⟩)):=
 Frz.ptr (off:=0) (cs:=Book.cells ⟨sheetOf p,wysB p,D,U,I,O⟩) d rfl fun j l c h m=>by
  match j,h,m with
  |0,h,m=>cases h;cases m;exact .p (Sub.refl _)
  |1,h,m=>cases h;cases m;exact u
  |2,h,m=>cases h;cases m;exact v
  |3,h,m=>cases h;cases m;exact x
  |4,h,m=>cases h;cases m;exact y
  |5,h,m=>cases h;cases m;exact z
  |j+6,h,_=>cases h
def Q7:H3 p p.A.length=.own 122 1 ((wysB p).map fun w=>.ip w.cells):=by
 unfold H3;rw[x7a (by unfold wysB;rw[x7z,x9t];exact x7s _)]
def Qf:p.A.length=((wysB p).map fun w=>AV.ip w.cells).length:=by
 unfold wysB;rw[x7z,x7z,x9t]
def Mw{L:List (List Str)}(h:k<L.length){o:List Str}(j:L[k]=o):YD (L.take (k+1))=.own 22 1 ((L.take k).map eStrs++[eStrs o]):=by
 unfold YD;rw[x7r h,x7n,j];rfl
def NT:Code->List Code
 |.seq a b=>NT a++NT b
 |.cond _ a b=>NT a++NT b
 |.block _ b=>NT b
 |.loop b=>b::NT b
 |_=>[]
noncomputable def x5e(k:Nat):Code:=(NT (Tryz.f50.body.getD .skip)).getD k .skip
theorem q6j(M:chkB p=true){R:List (List Str)}(L:OkO p O)(V:D.length=(sheetOf p).l.length)(C:U.length=(sheetOf p).l.length)(hd:∀d∈D,d.Pairwise ltT/\d.length<=1000000000)(hu:∀d∈U,d.Pairwise ltT/\d.length<=1000000000)(hIn:I.length=p.A.length)(hRn:R.length=p.A.length)(hR:∀(k:Nat)(h:k<p.A.length)(h':k<R.length),R[k]=WA (Tw p k p.A[k] D U (O.getD k []))){K:Exit->St->Prop}(hK:∀(m:Bool)(s:St),m=(!decide (R=I))->Le Tryz.f50.ntmps s ⟨[(1,.p (.ip p.cells)),(3,.ptr 2 0),(10,.p (.bool m))],[(5,YD U),(4,YD D),(3,H3 p p.A.length),(2,Rk p (.hd 3 0 p.A.length) (.hd 4 0 D.length) (.hd 5 0 U.length) p.A.length),(1,YD O),(0,YD R)]⟩->K (.exit 12) s):
  LoopK prog tab Tryz.f50.ntmps Kz (x5e 6) K ⟨[(1,.p (.ip p.cells)),(3,.ptr 2 0),(10,.p .ff),(147,.p (.int .i64 (p.A.map fun f=>AV.agg f.cells).length)),(148,.j 0)],[(5,YD U),(4,YD D),(3,H3 p p.A.length),(2,Rk p (.hd 3 0 p.A.length) (.hd 4 0 D.length) (.hd 5 0 (sheetOf p).l.length) p.A.length),(1,YD O),(0,YD I)]⟩:=by
 obtain⟨hg,hpl,hcn⟩:=XQ M;have hpm:(p.A.map fun f=>AV.agg f.cells).length=p.A.length:=x7z _;have c:R.length=I.length:=by omega
 have hOn:=L.len;have hOl:p.A.length=(O.map eStrs).length:=by rw[x7z,L.len]
 have Y:D.length=(D.map eStrs).length:=by rw[x7z]
 refine LoopK.inv QV (fun x:Nat×Bool=>⟨[(1,.p (.ip p.cells)),(3,.ptr 2 0),(10,.p (.bool x.2)),(147,.p (.int .i64 (p.A.map fun f=>AV.agg f.cells).length)),(148,.j x.1)],[(5,YD U),(4,YD D),(3,H3 p p.A.length),(2,Rk p (.hd 3 0 p.A.length) (.hd 4 0 D.length) (.hd 5 0 (sheetOf p).l.length) p.A.length),(1,YD O),(0,YD (R.take x.1++I.drop x.1))]⟩)
  (fun x=>x.1<=p.A.length/\x.2 = !decide (R.take x.1=I.take x.1)) (fun x=>p.A.length-x.1) (0,false)
  (Le.mk [] (by simp) (by simp) (by simp) (.r (.r (.cons (.p (Sub.ff rfl)) (.r (.r .nil))))) (.cons rfl (.refl _) (.cons rfl (.refl _) (.cons rfl (.refl _) (.cons rfl (.refl _) (.cons rfl (.refl _) (.cons rfl (.refl _) .nil))))))) ⟨x7p _,rfl⟩ ?_
 rintro⟨k,m⟩ ⟨hk1,u⟩;simp only at hk1 u⊢;rcases x7m k p.A.length with q|q;rotate_left 1
 ·obtain rfl:k=p.A.length:=by omega
  rw[x7a (by omega),x7a (by omega)]at u;rw[x7a (by omega),x7e (by omega),x9q];conv=>whnf
  repeat' (apply bD<;>intro _<;>first|omega|conv=>whnf)
  exact hK m _ u (Le.mk [] (by simp) (by simp) (by simp) (.r (.r (.r .nil))) (.cons rfl (.refl _) (.cons rfl (.refl _) (.cons rfl (.refl _) (.cons rfl (.of_eq (by rw[C])) (.cons rfl (.refl _) (.cons rfl (.refl _) .nil)))))))
 ·have e:p.A[k]?=some p.A[k]:=by simp
  have hpk:=UU e;obtain⟨o,Q⟩ : ∃o,O.getD k []=o:=⟨_,rfl⟩;have hOk:O[k]?=some o:=by rw[<-Q,x7w,x7x (by omega)];rfl
  have v:o.Pairwise ltT:=by rw[<-Q];exact LP L.rise k
  have hol25:o.length<=25:=by rw[<-Q];exact L.len25 M k
  have J:(wysB p)[k]?=some (newWay p k p.A[k]):=by rw[B8 q,hpk]
  have hN:=fun x=>Y2 ⟨sheetOf p,wysB p,D,U,(R).take k++I.drop k,O⟩ p M k p.A[k] e J o hOk v (by omega) V C hd hu x;have F:=Fr ⟨sheetOf p,wysB p,D,U,(R).take k++I.drop k,O⟩ p rfl M k p.A[k] e J o hN;have y:(R)[k]'(by omega)=WA (Tw p k p.A[k] D U o):=by
   rw[hR k q (by omega),Q]
  have hol:(Tw p k p.A[k] D U o).length<=1000000000:=by
   have h1:(Tw p k p.A[k] D U o).length<=(p.B++[GM]).length:=x9n _ _;rw[x7u,x8k]at h1;omega
  have G:SpecH prog 99 ([AV.ip (Book.cells ⟨sheetOf p,wysB p,D,U,(R).take k++I.drop k,O⟩),.int .i64 k].map .p) [] (OneRow (Kx (Tw p k p.A[k] D U o)) False):=F;have t:=IU (W:=R) (O:=I) (k:=k) (by omega) c;have E:=q4q (W:=R) (O:=I) (k:=k) (by omega) c;have hln:=IV (W:=R) (O:=I) (k:=k) (by omega) c;have n:=q4x (W:=R) (O:=I) (k:=k) (by omega) (by omega);have z:=WZ ((R)[k]'(by omega)) (I[k]'(by omega));rw[y]at z t n;have Z:(sheetOf p).l.length=(U.map eStrs).length:=by rw[x7z];omega
  have g:p.A.length=(((R).take k++I.drop k).map eStrs).length:=by rw[hln];omega
  clear F y hN;generalize Tw p k p.A[k] D U o=ol at*
  generalize hdq:decide (WA ol=I[k])=dq at z n;have hdk:decide ((R).take k=I.take k) = !m:=by rw[u,Bool.not_not]
  rw[hdk]at n;cases m<;>cases dq;all_goals
   conv=>whnf
   repeat' (first|((first|refine x7g rfl ?_|refine wI ?_|refine x8p k rfl (by omega) ?_|refine x9g k 0 (eStrs I[k]) (by omega) E ?_|refine cP z ?_|refine z0d k 0 (eStrs I[k]) (eStrs (WA ol)) (by omega) E (x7s 1) rfl ?_);conv=>whnf)|(apply bD<;>intro _<;>first|omega|conv=>whnf)|(apply bB<;>intro _<;>conv=>whnf)|(refine q0q 6 rfl G (.cons (q9h rfl (.hd (x9l some Q7) Qf) (.hd rfl Y) (.hd rfl Z) (.hd rfl g) (.hd rfl hOl)) (.cons (.p (Sub.refl _)) .nil)) (fun H=>H.elim) ?_;conv=>whnf)|(refine cH [(1000,6)] 0 (JK ol hol) ?_;conv=>whnf))
  all_goals first
   |exact absurd (show false=true by assumption) (by decide)
   |exact absurd (show true=false by assumption) (by decide)
   |exact⟨(k+1,true),⟨q,by simp only;rw[n];rfl⟩,by simp only;omega,Le.mk [] (by simp) (by simp) (by simp) (.r (.r (.cons (.p (Sub.tt rfl)) (.r (.r .nil))))) (.cons rfl (.refl _) (.cons rfl (.refl _) (.cons rfl (.refl _) (.cons rfl (.refl _) (.cons rfl (.refl _) (.cons rfl (.of_eq (x9l (Chunk.own 22 1) t)) .nil))))))⟩
   |exact⟨(k+1,true),⟨q,by simp only;rw[n];rfl⟩,by simp only;omega,Le.mk [] (by simp) (by simp) (by simp) (.r (.r (.r (.r (.r .nil))))) (.cons rfl (.refl _) (.cons rfl (.refl _) (.cons rfl (.refl _) (.cons rfl (.refl _) (.cons rfl (.refl _) (.cons rfl (.of_eq (x9l (Chunk.own 22 1) t)) .nil))))))⟩
   |exact⟨(k+1,false),⟨q,by simp only;rw[n];rfl⟩,by simp only;omega,Le.mk [] (by simp) (by simp) (by simp) (.r (.r (.r (.r (.r .nil))))) (.cons rfl (.refl _) (.cons rfl (.refl _) (.cons rfl (.refl _) (.cons rfl (.refl _) (.cons rfl (.refl _) (.cons rfl (.of_eq (x9l (Chunk.own 22 1) t)) .nil))))))⟩
   |exact⟨(k+1,false),⟨q,by simp only;rw[n];rfl⟩,by simp only;omega,Le.mk [] (by simp) (by simp) (by simp) (.r (.r (.cons (.p (Sub.ff rfl)) (.r (.r .nil))))) (.cons rfl (.refl _) (.cons rfl (.refl _) (.cons rfl (.refl _) (.cons rfl (.refl _) (.cons rfl (.refl _) (.cons rfl (.of_eq (x9l (Chunk.own 22 1) t)) .nil))))))⟩
def x0y(h:k<p.A.length)(j:k<(niB p D U O).length):(niB p D U O)[k]=WA (Tw p k p.A[k] D U (O.getD k [])):=by
 have l:k<((List.range p.A.length).map (niA p D U O)).length:=j;show((List.range p.A.length).map (niA p D U O))[k]'l=_;rw[z1h,z3g];unfold niA;rw[UU (x7x h)]
def x0r:∀(k:Nat)(h:k<p.A.length)(j:k<(rdI p D O I).length),(rdI p D O I)[k]=WA (Tw p k p.A[k] D (usB p I) (O.getD k [])):=fun _ h j=>x0y h j
theorem LL(p:Pg)(hf:Fit p):SpecP prog 50 [.agg p.cells] (fun r=>(chkB p=true->r=.ip (QK p).cells)/\(chkB p=false->r=.nilp)):=by
 refine sB Kz func50 rfl call50 ?_;conv=>whnf
 have hM:=Uu p hf;cases c:chkB p with
 | false=>
   rw[c]at hM;repeat' (first|(refine cP hM ?_;conv=>whnf)|(apply bN<;>intro _<;>conv=>whnf))
   all_goals first
    |contradiction
    |exact⟨_,.p (Sub.refl _),fun h=>(by cases h),fun _=>rfl⟩
 | true =>
   rw[c]at hM;obtain⟨hg,hpl,hcn⟩:=XQ c;have hpm:(p.A.map fun f=>AV.agg f.cells).length=p.A.length:=x7z _;have hFl:=HW p (by omega) (by omega);repeat' (first|(refine cP hM ?_;conv=>whnf)|(apply bN<;>intro _<;>conv=>whnf))
   all_goals try contradiction
   refine Qp ⟨[(1,.p (.ip p.cells)),(3,.ptr 2 0)],[(3,H3 p 0),(2,Rk p (.hd 3 0 0) (.p .nils) (.p .nils) p.A.length),(1,YD (List.replicate p.A.length [])),(0,YD (List.replicate p.A.length []))]⟩ ?_ ?_
   ·refine DrawK.of QV mixed (.cons 0 false (.cons 2 false (.cons 3 false (.cons 4 false (.cons 6 false (.cons 7 false (.cons 8 false (.fork3 1 (.fork 5 (.cons 9 true (.cons 10 true (.cons 11 true (.cons 12 true .nil)))) 9 (.cons 5 true (.cons 10 true (.cons 11 true (.cons 12 true .nil))))) 5 (.fork 1 (.cons 9 true (.cons 10 true (.cons 11 true (.cons 12 true .nil)))) 9 (.cons 1 true (.cons 10 true (.cons 11 true (.cons 12 true .nil))))) 9 (.fork 1 (.cons 5 true (.cons 10 true (.cons 11 true (.cons 12 true .nil)))) 5 (.cons 1 true (.cons 10 true (.cons 11 true (.cons 12 true .nil))))))))))))) (by kernel_rfl) ?_;conv=>whnf
    repeat' (first|((first|(refine iM fun _=>?_)|refine x7g rfl ?_|refine aR ?_|refine cP hFl ?_|refine z2b p.A.length (by rw[hpm]) (by show 24*_<=140737488355328;omega) (by unfold maxLen;omega) ?_);conv=>whnf)|(refine x7g ?_ ?_<;>conv=>whnf))
    all_goals first
     |exact x0u
     |exact x2l
   conv=>whnf
   repeat' (refine iM fun _=>?_;conv=>whnf)
   have hnW:(wysB p).length=p.A.length:=by unfold wysB;rw[x7z,x9t]
   refine LoopK.inv QV (fun k:Nat=>⟨[(1,.p (.ip p.cells)),(3,.ptr 2 0),(32,.p (.int .i64 (p.A.map fun f=>AV.agg f.cells).length)),(33,.j k)],[(3,H3 p k),(2,Rk p (.hd 3 0 k) (.p .nils) (.p .nils) p.A.length),(1,YD (List.replicate p.A.length [])),(0,YD (List.replicate p.A.length []))]⟩) (fun k=>k<=p.A.length) (fun k=>p.A.length-k) 0 (Le.of_eq rfl) (x7p _) ?_;intro k hk;rcases x7m k p.A.length with n|n
   ·have F:p.A[k]?=some p.A[k]:=by simp
    obtain⟨w1,w2,w3⟩:=NK c F;have hWn:=q8x p k p.A[k] F (by omega) w1 w3;have hwl:(((wysB p).take k).map fun w=>AV.ip w.cells).length=k:=by rw[x7z,x8q,hnW];omega
    have G:H3 p (k+1)=.own 122 1 ((((wysB p).take k).map fun w=>AV.ip w.cells)++[.ip (newWay p k p.A[k]).cells]):=by
     unfold H3;rw[x7r (by rw[hnW];exact n),x7n];have e:(wysB p)[k]'(by rw[hnW];exact n)=newWay p k p.A[k]:=by
      have v:=B8 n;rw[x7x (by rw[hnW];exact n),UU F]at v;exact z0m v
     rw[e];rfl
    conv=>whnf
    repeat' (first|((first|refine dA ?_|refine x7g rfl ?_|refine aD ?_|refine bP ?_|refine wI ?_|refine cP hWn ?_|refine z0w hwl.symm rfl (by show(k+1)*8<=140737488355328;omega) (by show k+1<=9223372036854775807;omega) (fun x hx=>by rcases x7y.1 hx with rfl;exact⟨rfl,rfl⟩) ?_);conv=>whnf)|(apply bD<;>intro _<;>first|omega|conv=>whnf)|(refine x7g ?_ ?_<;>conv=>whnf))
    all_goals first
     |exact⟨k+1,n,by omega,Le.of_eq (by rw[G];rfl)⟩
   ·obtain rfl:k=p.A.length:=by omega
    conv=>whnf
    repeat' (apply bD<;>intro _<;>first|omega|conv=>whnf)
    refine LoopK.inv QV (fun x:Bool×List (List Str)×List (List Str)=>⟨[(1,.p (.ip p.cells)),(3,.ptr 2 0),(5,.p (.bool x.1))],[(4,YD x.2.1),(3,H3 p p.A.length),(2,Rk p (.hd 3 0 p.A.length) (.hd 4 0 x.2.1.length) (.p .nils) p.A.length),(1,YD x.2.2),(0,YD (List.replicate p.A.length []))]⟩)
     (fun x=>(∃r,x.2.2=itO p r)/\(x.1=false->rdO p x.2.2=x.2.2/\x.2.1=dfB p x.2.2)) (fun x=>2*(400-tot x.2.2)+x.1.toNat) (true,[],List.replicate p.A.length [])
     (Le.mk [(4,YD [])] (by simp[Chunk.new0,YD];rfl) (by simp) (by simp) (.r (.r (.cons (.p (Sub.tt rfl)) .nil))) (.new x7v (.cons rfl (.refl _) (.cons rfl (.obj (.r (.r (.cons (.nil x7v) (.r (.r (.r .nil))))))) (.cons rfl (.refl _) (.cons rfl (.refl _) .nil)))))) ⟨⟨0,rfl⟩,fun h=>by cases h⟩ ?_
    rintro⟨m,D,O⟩ ⟨⟨r,hr⟩,hm⟩;simp only at hr hm⊢;have M:=Yv p r;rw[<-hr]at M;cases m with
    | false =>
      obtain⟨Z,hf2⟩:=hm rfl;conv=>whnf
      repeat' (refine Br.ff ?_;conv=>whnf)
      subst hf2;have hfixO:=Z;clear hm Z;have H:=Fy p O;have R:∀d∈dfB p O,d.Pairwise ltT/\d.length<=1000000000:=fun d R=>by
       obtain⟨it,hi,rfl⟩:=x7d.1 R;have v:=JL (MY (bkO p O) it.s);have Y:=V0 c M (t:=it.s) (by rw[<-JS];exact x7d.2 ⟨_,hi,rfl⟩);exact⟨ZF _,by omega⟩
      have hOn:=M.len;obtain⟨D,hD⟩ : ∃D,dfB p O=D:=⟨_,rfl⟩;rw[hD]at H R⊢;have hBk:∀I,(∃r,I=itI p D O r)->rdI p D O I=I->QK p=⟨sheetOf p,wysB p,D,usB p I,I,O⟩:=fun I v Y=>by
       have hB:BookR p ⟨sheetOf p,wysB p,D,usB p I,I,O⟩:=⟨rfl,rfl,⟨r,hr⟩,hfixO,hD.symm,v,Y,rfl⟩;exact hB.eq.symm
      refine LoopK.inv QV (fun x:Bool×List (List Str)×List (List Str)=>⟨[(1,.p (.ip p.cells)),(3,.ptr 2 0),(10,.p (.bool x.1))],[(5,YD x.2.1),(4,YD D),(3,H3 p p.A.length),(2,Rk p (.hd 3 0 p.A.length) (.hd 4 0 D.length) (.hd 5 0 x.2.1.length) p.A.length),(1,YD O),(0,YD x.2.2)]⟩)
       (fun x=>(∃r,x.2.2=itI p D O r)/\(x.1=false->rdI p D O x.2.2=x.2.2/\x.2.1=usB p x.2.2)) (fun x=>2*(400-tot x.2.2)+x.1.toNat) (true,[],List.replicate p.A.length [])
       (Le.mk [(5,YD [])] (by simp[Chunk.new0,YD];rfl) (by simp) (by simp) (.r (.r (.cons (.p (Sub.tt rfl)) .nil))) (.new x7v (.cons rfl (.refl _) (.cons rfl (.refl _) (.cons rfl (.obj (.r (.r (.r (.cons (.nil x7v) (.r (.r .nil))))))) (.cons rfl (.refl _) (.cons rfl (.refl _) .nil))))))) ⟨⟨0,rfl⟩,fun h=>by cases h⟩ ?_
      rintro⟨m,U,I⟩ ⟨⟨q,hq⟩,hm⟩;simp only at hq hm⊢;have hI:=Yw p D O q;rw[<-hq]at hI;have J:p.A.length=(O.map eStrs).length:=by rw[x7z,M.len]
      have hKD:D.length=(D.map eStrs).length:=by rw[x7z]
      cases m with
      | false=>
        obtain⟨Z,rfl⟩:=hm rfl;have hbk:=hBk I ⟨q,hq⟩ Z;have g:p.A.length=(I.map eStrs).length:=by rw[x7z,hI.len]
        have hKU:(usB p I).length=((usB p I).map eStrs).length:=by rw[x7z]
        conv=>whnf
        repeat' (refine Br.ff ?_;conv=>whnf)
        all_goals first
         |exact⟨_,q9h rfl (.hd (x9l some Q7) Qf) (.hd rfl hKD) (.hd rfl hKU) (.hd rfl g) (.hd rfl J),fun _=>by rw[hbk],fun h=>by cases h⟩
      | true=>
        have hLl:((sheetOf p).l.map fun i=>AV.agg i.cells).length=(sheetOf p).l.length:=x7z _;obtain⟨_,_,_,hsl,_⟩:=QU p;have hUl:(usB p I).length=(sheetOf p).l.length:=x7z _;have g:p.A.length=(I.map eStrs).length:=by rw[x7z,hI.len]
        conv=>whnf
        repeat' ((first|(refine iM fun _=>?_)|refine x7g rfl ?_|refine Br.tt ?_);conv=>whnf)
        refine LoopK.inv QV (fun k:Nat=>⟨[(1,.p (.ip p.cells)),(3,.ptr 2 0),(10,.p .ff),(124,.p (VL (sheetOf p).l)),(125,.p (.int .i64 ((sheetOf p).l.map fun i=>AV.agg i.cells).length)),(126,.j k)],[(5,YD ((usB p I).take k)),(4,YD D),(3,H3 p p.A.length),(2,Rk p (.hd 3 0 p.A.length) (.hd 4 0 D.length) (.hd 5 0 k) p.A.length),(1,YD O),(0,YD I)]⟩) (fun k=>k<=(sheetOf p).l.length) (fun k=>(sheetOf p).l.length-k) 0
         (Le.trans (s':=⟨[(1,.p (.ip p.cells)),(3,.ptr 2 0),(10,.p .ff),(124,.p (VL (sheetOf p).l)),(125,.p (.int .i64 ((sheetOf p).l.map fun i=>AV.agg i.cells).length)),(126,.j (0:Nat))],[(4,YD D),(3,H3 p p.A.length),(2,Rk p (.hd 3 0 p.A.length) (.hd 4 0 D.length) (.p .nils) p.A.length),(1,YD O),(0,YD I)]⟩) (lE) (Le.mk [(5,YD [])] (by simp[Chunk.new0,YD];rfl) (by simp) (by simp) (.r (.r (.r (.r (.r (.r .nil)))))) (.new x7v (.cons rfl (.refl _) (.cons rfl (.refl _) (.cons rfl (.obj (.r (.r (.r (.cons (.nil x7v) (.r (.r .nil))))))) (.cons rfl (.refl _) (.cons rfl (.refl _) .nil)))))))) (x7p _) ?_
        intro k hk;rcases x7m k (sheetOf p).l.length with n|n;rotate_left 1
        ·obtain rfl:k=(sheetOf p).l.length:=by omega
         have Q:(rdI p D O I).length=I.length:=by rw[hI.len];unfold rdI niB;rw[x7z,x9t]
         have hIn:=hI.len;rw[show(usB p I).take (sheetOf p).l.length=usB p I from x7a (by omega)];have hu:∀d∈usB p I,d.Pairwise ltT/\d.length<=1000000000:=fun d R=>by
          obtain⟨it,hi,rfl⟩:=x7d.1 R;have v:=JL (MZ (bkI p I) it.s);have Y:=S8 c hI (t:=it.s) (by rw[<-JS];exact x7d.2 ⟨_,hi,rfl⟩);exact⟨ZF _,by omega⟩
         conv=>whnf
         repeat' (first|(refine iM fun _=>?_;conv=>whnf)|(apply bD<;>intro _<;>first|omega|conv=>whnf))
         have hW:rdI p D O I=itI p D O (q+1):=by rw[hq];rfl
         refine q6j c M H hUl R hu hIn (Q.trans hIn) x0r fun m s u hle=>?_;conv=>whnf
         refine⟨(m,usB p I,rdI p D O I),⟨⟨q+1,hW⟩,fun h=>?_⟩,?_,hle⟩
         ·simp only at h⊢;rw[h]at u;have v:rdI p D O I=I:=by simpa using u
          rw[v];exact⟨v,rfl⟩
         ·simp only;have hOW:tot (rdI p D O I)<=400:=(q3d p D (usB p I) O).tot c;cases m with
          | true=>
            have v:rdI p D O I≠I:=by simpa using u
            have Y:=Tj c (D:=D) (O:=O) (k:=q) (by rw[<-hW,<-hq];exact v);rw[<-hW,<-hq]at Y;simp only[z3k];omega
          | false=>
            have v:rdI p D O I=I:=by simpa using u
            rw[v];simp only[z3k,Bool.toNat_false];omega
        have y:(sheetOf p).l[k].s∈VD p:=by rw[<-JS];exact x7d.2 ⟨_,x7l n,rfl⟩
        have B:k=(((usB p I).take k).map eStrs).length:=by rw[x7z,x8q];omega
        have C:=K3 ⟨sheetOf p,wysB p,D,(usB p I).take k,I,O⟩ (sheetOf p).l[k].s (fun h4=>hI.use c rfl rfl y h4);rw[IJ (p:=p) (I:=I) rfl rfl]at C;have hd1:SpecH prog 98 ([AV.ip (Book.cells ⟨sheetOf p,wysB p,D,(usB p I).take k,I,O⟩),.agg (sheetOf p).l[k].s.cells].map .p) [] (OneRow (Kx (MZ (bkI p I) (sheetOf p).l[k].s)) (MZ (bkI p I) (sheetOf p).l[k].s=[])):=C;have hdl:=S8 c hI y;have G:=Mw (L:=usB p I) (k:=k) (by omega) (o:=WA (MZ (bkI p I) (sheetOf p).l[k].s)) (by unfold usB;rw[z1h]);generalize hds:MZ (bkI p I) (sheetOf p).l[k].s=ds at*
        clear C;conv=>whnf
        repeat' (first|((first|refine dA ?_|refine x7g rfl ?_|refine aD ?_|refine bP ?_|(refine iA fun _=>?_)|refine wI ?_|refine z0w B rfl (by show(k+1)*24<=140737488355328;omega) (by show k+1<=9223372036854775807;omega) (fun x hx=>by rcases x7y.1 hx with rfl;exact⟨rfl,rfl⟩) ?_);conv=>whnf)|(apply bD<;>intro _<;>first|omega|conv=>whnf)|(refine q0q 6 rfl hd1 (.cons (q9h rfl (.hd (x9l some Q7) Qf) (.hd rfl hKD) (.hd rfl B) (.hd rfl g) (.hd rfl J)) (.cons (.p (Sub.refl _)) .nil)) (fun z=>?_) ?_<;>conv=>whnf)|(refine CallK.nil 6 9 1 rfl (.row .nil) ?_;refine cH [(1000,6)] 0 (JK [] (by simp)) ?_;conv=>whnf)|(refine cH [(1000,6)] 0 (JK ds (by omega)) ?_;conv=>whnf)|(refine x7g ?_ ?_<;>conv=>whnf))
        all_goals first
         |exact⟨k+1,n,by omega,Le.of_eq (by rw[G,z];rfl)⟩
         |exact⟨k+1,n,by omega,Le.of_eq (by rw[G];rfl)⟩
    | true =>
      have hLl:((sheetOf p).l.map fun i=>AV.agg i.cells).length=(sheetOf p).l.length:=x7z _;obtain⟨_,_,_,hsl,_⟩:=QU p;conv=>whnf
      repeat' ((first|(refine iM fun _=>?_)|refine x7g rfl ?_|refine Br.tt ?_);conv=>whnf)
      refine LoopK.inv QV (fun k:Nat=>⟨[(1,.p (.ip p.cells)),(3,.ptr 2 0),(5,.p .ff),(62,.p (VL (sheetOf p).l)),(63,.p (.int .i64 ((sheetOf p).l.map fun i=>AV.agg i.cells).length)),(64,.j k)],[(4,YD ((dfB p O).take k)),(3,H3 p p.A.length),(2,Rk p (.hd 3 0 p.A.length) (.hd 4 0 k) (.p .nils) p.A.length),(1,YD O),(0,YD (List.replicate p.A.length []))]⟩) (fun k=>k<=(sheetOf p).l.length) (fun k=>(sheetOf p).l.length-k) 0
       (Le.trans (s':=⟨[(1,.p (.ip p.cells)),(3,.ptr 2 0),(5,.p .ff),(62,.p (VL (sheetOf p).l)),(63,.p (.int .i64 ((sheetOf p).l.map fun i=>AV.agg i.cells).length)),(64,.j (0:Nat))],[(3,H3 p p.A.length),(2,Rk p (.hd 3 0 p.A.length) (.p .nils) (.p .nils) p.A.length),(1,YD O),(0,YD (List.replicate p.A.length []))]⟩) (lE) (Le.mk [(4,YD [])] (by simp[Chunk.new0,YD];rfl) (by simp) (by simp) (.r (.r (.r (.r (.r (.r .nil)))))) (.new x7v (.cons rfl (.refl _) (.cons rfl (.obj (.r (.r (.cons (.nil x7v) (.r (.r (.r .nil))))))) (.cons rfl (.refl _) (.cons rfl (.refl _) .nil))))))) (x7p _) ?_
      intro k hk;rcases x7m k (sheetOf p).l.length with n|n;rotate_left 1
      ·obtain rfl:k=(sheetOf p).l.length:=by omega
       have H:=Fy p O;have Q:(rdO p O).length=O.length:=by rw[M.len];unfold rdO otB;rw[x7z,x9t]
       have hOn:=M.len;rw[show(dfB p O).take (sheetOf p).l.length=dfB p O from x7a (by omega)];have R:∀d∈dfB p O,d.length<=1000:=fun d R=>by
        obtain⟨it,hi,rfl⟩:=x7d.1 R;have v:=JL (MY (bkO p O) it.s);have Y:=V0 c M (t:=it.s) (by rw[<-JS];exact x7d.2 ⟨_,hi,rfl⟩);omega
       conv=>whnf
       repeat' (first|(refine iM fun _=>?_;conv=>whnf)|(apply bD<;>intro _<;>first|omega|conv=>whnf))
       refine LoopK.inv QV (fun x:Nat×Bool=>⟨[(1,.p (.ip p.cells)),(3,.ptr 2 0),(5,.p (.bool x.2)),(85,.p (.int .i64 (p.A.map fun f=>AV.agg f.cells).length)),(86,.j x.1)],[(4,YD (dfB p O)),(3,H3 p p.A.length),(2,Rk p (.hd 3 0 p.A.length) (.hd 4 0 (sheetOf p).l.length) (.p .nils) p.A.length),(1,YD ((rdO p O).take x.1++O.drop x.1)),(0,YD (List.replicate p.A.length []))]⟩)
        (fun x=>x.1<=p.A.length/\x.2 = !decide ((rdO p O).take x.1=O.take x.1)) (fun x=>p.A.length-x.1) (0,false)
        (Le.mk [] (by simp) (by simp) (by simp) (.r (.r (.cons (.p (Sub.ff rfl)) (.r (.r .nil))))) (.cons rfl (.refl _) (.cons rfl (.refl _) (.cons rfl (.refl _) (.cons rfl (.refl _) (.cons rfl (.refl _) .nil)))))) ⟨x7p _,rfl⟩ ?_
       rintro⟨k,m⟩ ⟨hk1,u⟩;simp only at hk1 u⊢;rcases x7m k p.A.length with n|n;rotate_left 1
       ·obtain rfl:k=p.A.length:=by omega
        rw[x7a (by omega),x7a (by omega)]at u;rw[x7a (by omega),x7e (by omega),x9q];have hW:rdO p O=itO p (r+1):=by rw[hr];rfl
        conv=>whnf
        repeat' (apply bD<;>intro _<;>first|omega|conv=>whnf)
        refine⟨(m,dfB p O,rdO p O),⟨⟨r+1,hW⟩,fun h=>?_⟩,?_,Le.mk [] (by simp) (by simp) (by simp) (.r (.r (.r .nil))) (.cons rfl (.refl _) (.cons rfl (.refl _) (.cons rfl (.of_eq (by rw[H])) (.cons rfl (.refl _) (.cons rfl (.refl _) .nil)))))⟩
        ·simp only at h⊢;rw[h]at u;have v:rdO p O=O:=by simpa using u
         rw[v];exact⟨v,rfl⟩
        ·simp only;have hOW:=(q3m p (dfB p O)).tot c;have hOW:tot (rdO p O)<=400:=hOW;cases m with
         | true=>
           have v:rdO p O≠O:=by simpa using u
           have Y:=Tk (p:=p) (k:=r) (by rw[<-hW,<-hr];exact v);rw[<-hW,<-hr]at Y;simp only[z3k];omega
         | false=>
           have v:rdO p O=O:=by simpa using u
           rw[v];simp only[z3k,Bool.toNat_false];omega
       have F:p.A[k]?=some p.A[k]:=by simp
       have hpk:=UU F;have hWk:wysB p=(wysB p):=rfl;have hout:=K2 ⟨sheetOf p,wysB p,dfB p O,[],List.replicate p.A.length [],(rdO p O).take k++O.drop k⟩ p rfl c k p.A[k] F (by show(wysB p)[k]?=_;rw[B8 n,hpk]) H R;have hrow:(rdO p O)[k]'(by omega)=WA (L6 p k p.A[k] (dfB p O) (itsOf p k p.A[k])):=by
        unfold rdO otB;rw[z1h,z3g];unfold otA;rw[hpk]
       have hol:(L6 p k p.A[k] (dfB p O) (itsOf p k p.A[k])).length<=1000000000:=by
        have v:=Ta (p:=p) (i:=k) (f:=p.A[k]) R (itsOf p k p.A[k]);have Y:(itsOf p k p.A[k]).length<=200:=by
         obtain⟨_,_,_,_,hsp⟩:=QU p;obtain⟨_,_,h3,h4⟩:=hsp k _ F;have h5:=x9l List.length h4;rw[x9i,x8q]at h5;have e1:itL (k:Nat) 0 (-1) 0 (QP p.A k) p.A[k].body=itsOf p k p.A[k]:=rfl;rw[e1]at h5;omega
        have h3:(itsOf p k p.A[k]).length*1000<=200*1000:=x9x _ Y;omega
       have hout1:SpecH prog 96 ([AV.ip (Book.cells ⟨sheetOf p,wysB p,dfB p O,[],List.replicate p.A.length [],(rdO p O).take k++O.drop k⟩),.int .i64 k].map .p) [] (OneRow (Kx (L6 p k p.A[k] (dfB p O) (itsOf p k p.A[k]))) False):=hout;have V:=IU (W:=rdO p O) (O:=O) (k:=k) (by omega) Q;have hat:=q4q (W:=rdO p O) (O:=O) (k:=k) (by omega) Q;have hln:=IV (W:=rdO p O) (O:=O) (k:=k) (by omega) Q;have E:=q4x (W:=rdO p O) (O:=O) (k:=k) (by omega) (by omega);have hEq:=WZ ((rdO p O)[k]'(by omega)) (O[k]'(by omega));rw[hrow]at hEq V E;have B:(sheetOf p).l.length=((dfB p O).map eStrs).length:=by rw[x7z];omega
       have J:p.A.length=(((rdO p O).take k++O.drop k).map eStrs).length:=by rw[hln];omega
       have g:p.A.length=((List.replicate p.A.length ([]:List Str)).map eStrs).length:=by rw[x7z,x9w]
       clear hout hrow;generalize L6 p k p.A[k] (dfB p O) (itsOf p k p.A[k])=ol at*
       generalize hdq:decide (WA ol=O[k])=dq at hEq E;have hdk:decide ((rdO p O).take k=O.take k) = !m:=by rw[u,Bool.not_not]
       rw[hdk]at E;cases m<;>cases dq;all_goals
        conv=>whnf
        repeat' (first|((first|refine x7g rfl ?_|refine wI ?_|refine x8p k rfl (by omega) ?_|refine x9g k 0 (eStrs O[k]) (by omega) hat ?_|refine cP hEq ?_|refine z0d k 0 (eStrs O[k]) (eStrs (WA ol)) (by omega) hat (x7s 1) rfl ?_);conv=>whnf)|(apply bD<;>intro _<;>first|omega|conv=>whnf)|(apply bB<;>intro _<;>conv=>whnf)|(refine q0q 5 rfl hout1 (.cons (q9h rfl (.hd (x9l some Q7) Qf) (.hd rfl B) (.p Sub.nils) (.hd rfl g) (.hd rfl J)) (.cons (.p (Sub.refl _)) .nil)) (fun z=>z.elim) ?_;conv=>whnf)|(refine cH [(1000,5)] 0 (JK ol hol) ?_;conv=>whnf))
       all_goals first
        |exact absurd (show false=true by assumption) (by decide)
        |exact absurd (show true=false by assumption) (by decide)
        |exact⟨(k+1,true),⟨n,by simp only;rw[E];rfl⟩,by simp only;omega,Le.mk [] (by simp) (by simp) (by simp) (.r (.r (.cons (.p (Sub.tt rfl)) (.r (.r .nil))))) (.cons rfl (.refl _) (.cons rfl (.refl _) (.cons rfl (.refl _) (.cons rfl (.of_eq (x9l (Chunk.own 22 1) V)) (.cons rfl (.refl _) .nil)))))⟩
        |exact⟨(k+1,true),⟨n,by simp only;rw[E];rfl⟩,by simp only;omega,Le.mk [] (by simp) (by simp) (by simp) (.r (.r (.r (.r (.r .nil))))) (.cons rfl (.refl _) (.cons rfl (.refl _) (.cons rfl (.refl _) (.cons rfl (.of_eq (x9l (Chunk.own 22 1) V)) (.cons rfl (.refl _) .nil)))))⟩
        |exact⟨(k+1,false),⟨n,by simp only;rw[E];rfl⟩,by simp only;omega,Le.mk [] (by simp) (by simp) (by simp) (.r (.r (.r (.r (.r .nil))))) (.cons rfl (.refl _) (.cons rfl (.refl _) (.cons rfl (.refl _) (.cons rfl (.of_eq (x9l (Chunk.own 22 1) V)) (.cons rfl (.refl _) .nil)))))⟩
        |exact⟨(k+1,false),⟨n,by simp only;rw[E];rfl⟩,by simp only;omega,Le.mk [] (by simp) (by simp) (by simp) (.r (.r (.cons (.p (Sub.ff rfl)) (.r (.r .nil))))) (.cons rfl (.refl _) (.cons rfl (.refl _) (.cons rfl (.refl _) (.cons rfl (.of_eq (x9l (Chunk.own 22 1) V)) (.cons rfl (.refl _) .nil)))))⟩
      have y:(sheetOf p).l[k].s∈VD p:=by rw[<-JS];exact x7d.2 ⟨_,x7l n,rfl⟩
      have H:=Fy p O;have B:k=(((dfB p O).take k).map eStrs).length:=by rw[x7z,x8q];omega
      have J:p.A.length=(O.map eStrs).length:=by rw[x7z,M.len]
      have g:p.A.length=((List.replicate p.A.length ([]:List Str)).map eStrs).length:=by rw[x7z,x9w]
      have C:=K1 ⟨sheetOf p,wysB p,(dfB p O).take k,[],List.replicate p.A.length [],O⟩ (sheetOf p).l[k].s (fun h4=>M.call c rfl rfl y h4);rw[Af rfl rfl]at C;have hd1:SpecH prog 95 ([AV.ip (Book.cells ⟨sheetOf p,wysB p,(dfB p O).take k,[],List.replicate p.A.length [],O⟩),.agg (sheetOf p).l[k].s.cells].map .p) [] (OneRow (Kx (MY (bkO p O) (sheetOf p).l[k].s)) (MY (bkO p O) (sheetOf p).l[k].s=[])):=C;have hdl:=V0 c M y;have G:=Mw (L:=dfB p O) (k:=k) (by omega) (o:=WA (MY (bkO p O) (sheetOf p).l[k].s)) (by unfold dfB;rw[z1h]);generalize hds:MY (bkO p O) (sheetOf p).l[k].s=ds at*
      clear C;conv=>whnf
      repeat' (first|((first|refine dA ?_|refine x7g rfl ?_|refine aD ?_|refine bP ?_|(refine iA fun _=>?_)|refine wI ?_|refine z0w B rfl (by show(k+1)*24<=140737488355328;omega) (by show k+1<=9223372036854775807;omega) (fun x hx=>by rcases x7y.1 hx with rfl;exact⟨rfl,rfl⟩) ?_);conv=>whnf)|(apply bD<;>intro _<;>first|omega|conv=>whnf)|(refine q0q 5 rfl hd1 (.cons (q9h rfl (.hd (x9l some Q7) Qf) (.hd rfl B) (.p Sub.nils) (.hd rfl g) (.hd rfl J)) (.cons (.p (Sub.refl _)) .nil)) (fun z=>?_) ?_<;>conv=>whnf)|(refine CallK.nil 5 9 1 rfl (.row .nil) ?_;refine cH [(1000,5)] 0 (JK [] (by simp)) ?_;conv=>whnf)|(refine cH [(1000,5)] 0 (JK ds (by omega)) ?_;conv=>whnf)|(refine x7g ?_ ?_<;>conv=>whnf))
      all_goals first
       |exact⟨k+1,n,by omega,Le.of_eq (by rw[G,z];rfl)⟩
       |exact⟨k+1,n,by omega,Le.of_eq (by rw[G];rfl)⟩
def JM(p:Pg)(n:Str):Int:=idxF (fun f=>f.name==n) p.A
noncomputable def x0m(p:Pg)(n:Str):List Str:=if chkB p=true/\0<=JM p n then(QK p).Q.getD (JM p n).toNat []else []
noncomputable def x2d(p:Pg)(n:Str):List Str:=if chkB p=true/\0<=JM p n then(QK p).ins.getD (JM p n).toNat []else []
noncomputable def WJ(p:Pg)(id:Int):List Str:=if chkB p=true/\1<=id/\id<=(sheetOf p).l.length then(QK p).N.getD (id-1).toNat []else []
noncomputable def JA(p:Pg)(id:Int):List Str:=if chkB p=true/\1<=id/\id<=(sheetOf p).l.length then(QK p).O.getD (id-1).toNat []else []
theorem Rb{n:Str}(h:0<=JM p n):(JM p n).toNat<p.A.length:=by
 unfold JM idxF at h⊢;cases j:p.A.any fun f=>f.name==n with
 | true=>
   rw[x7c];obtain⟨x,l,m⟩:=x8e.1 j;have:=List.findIdx_lt_length_of_exists (p:=fun f:Pr=>f.name==n) ⟨x,l,m⟩;simpa using this
 | false=>
   rw[j,x7o]at h;omega
def ET(h:k<O.length):(O.map eStrs)[k]?=some (eStrs (O.getD k [])):=by
 rw[x7k,x7w,x7x h];rfl
theorem SH(p:Pg)(z:Fit p)(id:Int):SpecP prog 25 [.agg p.cells,.int .i64 id] (fun r=>r=eStrs (WJ p id)):=by
 refine sB Bg func25 rfl call25 ?_;conv=>whnf
 have v:=LL p z;cases n:chkB p with
 | false=>
   have e:WJ p id=[]:=by unfold WJ;rw[if_neg (by rw[n];simp)]
   rw[e];have j:=v.mono (R':=fun r=>r=.nilp) fun r t=>t.2 n;repeat' (refine cP j ?_;conv=>whnf)
   all_goals first
    |contradiction
    |exact⟨_,.p Sub.nils,rfl⟩
 | true=>
   have j:=v.mono (R':=fun r=>r=.ip (QK p).cells) fun r t=>t.1 n;have x:=UF n;have d:(QK p).N.length=(sheetOf p).l.length:=by rw[x.N];exact x7z _
   have y:=(XQ n).2.2;obtain⟨_,_,_,c,_⟩:=QU p;have hH:SpecP prog 60 [.ip (QK p).s.cells,.int .i64 id] (fun r=>r=.bool (decide (1<=id)&&decide (id<=(sheetOf p).l.length))):=by
    have u:=KP (QK p).s id;rw[show(QK p).s.l=(sheetOf p).l by rw[x.s]]at u;exact u
   have q:=fun h=>ET (O:=(QK p).N) (k:=(id-1).toNat) h;have e:WJ p id=if 1<=id/\id<=(sheetOf p).l.length then(QK p).N.getD (id-1).toNat []else []:=by
    unfold WJ;by_cases m:1<=id/\id<=(sheetOf p).l.length
    ·rw[if_pos ⟨n,m⟩,if_pos m]
    ·rw[if_neg (fun h=>m h.2),if_neg m]
   rw[e];generalize(sheetOf p).l.length=sl at*
   generalize QK p=b at*
   by_cases m:1<=id/\id<=(sl:Int)
   ·rw[if_pos m];rw[show(decide (1<=id)&&decide (id<=(sl:Int)))=true by simp[m]]at hH;have q:=q (by omega);repeat' (first|((first|refine wI ?_|refine cP j ?_|refine cP hH ?_|(refine IdxK.at (k:=(id-1).toNat) (by omega) q rfl ?_));conv=>whnf)|(apply bN<;>intro _<;>conv=>whnf))
    all_goals first
     |contradiction
     |exact RetK.p rfl
     |exact⟨_,.p (Sub.refl _),rfl⟩
   ·rw[if_neg m];rw[show(decide (1<=id)&&decide (id<=(sl:Int)))=false by rw[z3t,z0k,z0k];omega]at hH;repeat' (first|((first|refine cP j ?_|refine cP hH ?_);conv=>whnf)|(apply bN<;>intro _<;>conv=>whnf))
    all_goals first
     |contradiction
     |exact⟨_,.p Sub.nils,rfl⟩
theorem SF(p:Pg)(z:Fit p)(id:Int):SpecP prog 26 [.agg p.cells,.int .i64 id] (fun r=>r=eStrs (JA p id)):=by
 refine sB Bh func26 rfl call26 ?_;conv=>whnf
 have v:=LL p z;cases n:chkB p with
 | false=>
   have e:JA p id=[]:=by unfold JA;rw[if_neg (by rw[n];simp)]
   rw[e];have j:=v.mono (R':=fun r=>r=.nilp) fun r t=>t.2 n;repeat' (refine cP j ?_;conv=>whnf)
   all_goals first
    |contradiction
    |exact⟨_,.p Sub.nils,rfl⟩
 | true=>
   have j:=v.mono (R':=fun r=>r=.ip (QK p).cells) fun r t=>t.1 n;have x:=UF n;have d:(QK p).O.length=(sheetOf p).l.length:=by rw[x.O];exact x7z _
   have y:=(XQ n).2.2;obtain⟨_,_,_,c,_⟩:=QU p;have hH:SpecP prog 60 [.ip (QK p).s.cells,.int .i64 id] (fun r=>r=.bool (decide (1<=id)&&decide (id<=(sheetOf p).l.length))):=by
    have u:=KP (QK p).s id;rw[show(QK p).s.l=(sheetOf p).l by rw[x.s]]at u;exact u
   have q:=fun h=>ET (O:=(QK p).O) (k:=(id-1).toNat) h;have e:JA p id=if 1<=id/\id<=(sheetOf p).l.length then(QK p).O.getD (id-1).toNat []else []:=by
    unfold JA;by_cases m:1<=id/\id<=(sheetOf p).l.length
    ·rw[if_pos ⟨n,m⟩,if_pos m]
    ·rw[if_neg (fun h=>m h.2),if_neg m]
   rw[e];generalize(sheetOf p).l.length=sl at*
   generalize QK p=b at*
   by_cases m:1<=id/\id<=(sl:Int)
   ·rw[if_pos m];rw[show(decide (1<=id)&&decide (id<=(sl:Int)))=true by simp[m]]at hH;have q:=q (by omega);repeat' (first|((first|refine wI ?_|refine cP j ?_|refine cP hH ?_|(refine IdxK.at (k:=(id-1).toNat) (by omega) q rfl ?_));conv=>whnf)|(apply bN<;>intro _<;>conv=>whnf))
    all_goals first
     |contradiction
     |exact RetK.p rfl
     |exact⟨_,.p (Sub.refl _),rfl⟩
   ·rw[if_neg m];rw[show(decide (1<=id)&&decide (id<=(sl:Int)))=false by rw[z3t,z0k,z0k];omega]at hH;repeat' (first|((first|refine cP j ?_|refine cP hH ?_);conv=>whnf)|(apply bN<;>intro _<;>conv=>whnf))
    all_goals first
     |contradiction
     |exact⟨_,.p Sub.nils,rfl⟩
section
variable {a b:Str}{p:Pg}{i:Nat}{f:Pr}
end
section
variable {P:Program}{T:Tab}{N:Nat}{σ:Mem}{β:Lab}{a:Act}{w:World}{o:Oper}{K:St->Prop}{s:St}
end
def dP:Pg:=⟨[[103]],[
 ⟨[109,97,105,110],[],[[118]],[
   .mk 1 1 [] [118] [] (.mk 1 2 [] []) false [] [] [],
   .mk 2 4 [] [] [112] (.mk 0 0 [] []) false [⟨false,[],.mk 1 3 [] []⟩,⟨true,[118],.mk 0 0 [] []⟩] [] [],
   .mk 3 3 [] [] [] (.mk 2 0 [118] []) false [] [] [],
   .mk 4 3 [] [] [] (.mk 2 0 [103] []) false [] [] []],[]⟩,
 ⟨[112],[⟨[120],false⟩,⟨[121],true⟩],[],[
   .mk 5 2 [] [120] [] (.mk 0 0 [] []) false [] [] [],
   .mk 6 5 [] [] [] (.mk 12 0 [] [.mk 2 0 [121] [],.mk 1 9 [] []]) false [] [.mk 7 10 [] [101] [] (.mk 0 0 [] []) false [] [] []] [],
   .mk 8 9 [] [] [] (.mk 2 0 [103] []) true [] [] []],[[101]]⟩]⟩
instance:DecidableRel ltT:=fun a b=>inferInstanceAs (Decidable (Op.bytesLess a b=true))
def x2b(m l:List Str):Bool:=decide (m.Pairwise ltT)&&m.all (fun s=>inS l s)&&l.all (fun s=>inS m s)
def Fe{m l:List Str}(h:x2b m l=true):WA l=m:=by
 unfold x2b at h;simp only[x7i,x8l,x8a]at h;exact(q1y h.1.1 fun s=>⟨fun j=>UN.1 (h.1.2 s j),fun j=>UN.1 (h.2 s j)⟩).symm
def q5s:List (List Str)->List (List Str)->Bool
 |[],[]=>true
 |m::ms,l::ls=>x2b m l&&q5s ms ls
 |_,_=>false
theorem Yz:∀{ms ls:List (List Str)},q5s ms ls=true->ls.map WA=ms
 |[],[],_=>rfl
 |[],_::_,h=>by cases h
 |_::_,[],h=>by cases h
 | m::ms,l::ls,h=>by
   rw[q5s,x7i]at h;rw[x8v,Fe h.1,Yz h.2]
def Ap(h:q5s D ((sheetOf p).l.map fun it=>MY (bkO p O) it.s)=true):dfB p O=D:=by
 have j:=Yz h;rw[z1s]at j;exact j
def q7t(h:q5s U ((sheetOf p).l.map fun it=>MZ (bkI p I) it.s)=true):usB p I=U:=by
 have j:=Yz h;rw[z1s]at j;exact j
def x5m(h:List Bool)(p:Pg)(i:Nat)(f:Pr)(D:List (List Str)):List Str:=(itsOf p i f).flatMap fun it=>bif h.getD (ixI p i f it.s.id).toNat false then(FJ D it.s.id).filter (outB p f)else []
def x5p(h:List (Int×Int))(p:Pg)(i:Nat)(f:Pr)(D U:List (List Str))(o:List Str)(x:Str):Bool:=(HI 0 (ZN (QL (cntL f.body+2) (h.filter fun t=>GG p i f D x t.1)).1 [0])).any (hitN p i f U o x)
def EX{j l:List Bool}{f0 f1:Pr}(m:p.A=[f0,f1])(r:(newWay p 0 f0).live=j)(t:(newWay p 1 f1).live=l)(h:q5s O [x5m j p 0 f0 D,x5m l p 1 f1 D]=true):otB p D=O:=by
 rw[<-Yz h,<-r,<-t];unfold otB;have n:prA p 0=f0:=UU (by rw[m];rfl);have q:prA p 1=f1:=UU (by rw[m];rfl);rw[m];show [otA p D 0,otA p D 1]=_;unfold otA;rw[n,q];rfl
def q6k{x1r x1t:List (Int×Int)}{f0 f1:Pr}(j:p.A=[f0,f1])(n:YT (newWay p 0 f0) f0=x1r)(q:YT (newWay p 1 f1) f1=x1t)(h:q5s I [(p.B++[GM]).filter (x5p x1r p 0 f0 D U (O.getD 0 [])),(p.B++[GM]).filter (x5p x1t p 1 f1 D U (O.getD 1 []))]=true):niB p D U O=I:=by
 rw[<-Yz h,<-n,<-q];unfold niB;have l:prA p 0=f0:=UU (by rw[j];rfl);have m:prA p 1=f1:=UU (by rw[j];rfl);rw[j];show [niA p D U O 0,niA p D U O 1]=_;unfold niA Tw;rw[l,m];rfl
def L4:Str:=[103]
def vS:Str:=[118]
def yS:Str:=[121]
def xS:Str:=[120]
def x2z:LK (newWay someP 0 f0) f0=[⟨0,1,1⟩,⟨1,2,1⟩,⟨2,3,1⟩,⟨3,4,1⟩,⟨4,-1,1⟩]:=by
 unfold LK YG;rw[x1x,x0t];exact Tt (by unfold okSt;decide) (by decide) (by decide) (by decide)
def q7u:YT (newWay someP 0 f0) f0=[(0,1),(1,2),(2,3),(3,4),(4,5)]:=by
 unfold YT;rw[x2z]
 kernel_rfl
def x2e:YT (newWay someP 1 f1) f1=[(0,1),(1,2),(2,3),(2,4),(3,5),(4,5)]:=by
 unfold YT;rw[x2w]
 kernel_rfl
def IR:(newWay someP 0 f0).live=[true,true,true,true,true,true]:=by
 unfold newWay;simp only[x0j]
 kernel_rfl
def q8d:(newWay someP 1 f1).live=[true,true,true,true,true,true]:=by
 unfold newWay;simp only[x0k]
 kernel_rfl
def sO:List (List Str):=[[L4],[yS]]
def sD0:List (List Str):=[[vS],[L4],[],[],[yS],[],[],[q1u]]
def sD:List (List Str):=[[vS],[L4,vS],[],[],[yS],[],[],[q1u]]
def sU:List (List Str):=[[],[vS],[vS],[L4],[xS,yS],[yS],[],[yS]]
def some_book:BookR someP ⟨sheetOf someP,wysB someP,sD,sU,[[],[]],sO⟩:=by
 have d0:dfB someP [[],[]]=sD0:=Ap (by kernel_rfl);have l:otB someP sD0=sO:=EX (f0:=f0) (f1:=f1) rfl IR q8d (by kernel_rfl);have d1:dfB someP sO=sD:=Ap (by kernel_rfl);have o2:otB someP sD=sO:=EX (f0:=f0) (f1:=f1) rfl IR q8d (by kernel_rfl);have h:usB someP [[],[]]=sU:=q7t (by kernel_rfl);have j:niB someP sD sU sO=[[],[]]:=q6k (f0:=f0) (f1:=f1) rfl q7u x2e (by kernel_rfl);refine⟨rfl,rfl,⟨1,?_⟩,?_,d1.symm,⟨0,rfl⟩,?_,h.symm⟩
 .show sO=otB someP (dfB someP [[],[]]);rw[d0,l]
 .show otB someP (dfB someP sO)=sO;rw[d1,o2]
 .show niB someP sD (usB someP [[],[]]) sO=[[],[]];rw[h,j]
def g0:Pr:=dP.A[0]'(by decide)
def g1:Pr:=dP.A[1]'(by decide)
def I0{m:Int}(h:Hq p m=true):chkB p=true:=by
 unfold Hq at h;rw[x7i]at h;exact h.1
theorem q6l(h:chkB p=true)(l:p.A[k]?=some f):JM p f.name=(k:Nat)/\x0m p f.name=(QK p).Q.getD k []/\x2d p f.name=(QK p).ins.getD k []:=by
 have r:f.name∈procsN p:=x7d.2 ⟨f,x7t l,rfl⟩;obtain⟨m,j,n,_,t,q⟩:=Yq r;obtain⟨rfl,_⟩:=Vu h (x7x j) l q;have e:JM p f.name=(m:Nat):=n;refine⟨e,?_,?_⟩
 ·unfold x0m;rw[if_pos ⟨h,by omega⟩,e];rfl
 ·unfold x2d;rw[if_pos ⟨h,by omega⟩,e];rfl
theorem x1v:∀l:List Arg,(l.flatMap usA).length<=PV l
 |[]=>by simp[PV]
 | x::r=>by
   have h:=x1v r;have j:=Vw x.x;rw[x9v,x7u];have m:(usA x).length<=1+(XP x.x).length:=by
    unfold usA;rw[x7u];split<;>simp
   simp only[PV];omega
theorem x1u(n:Fit p)(m:chkB p=true)(h:OkI p I)(q:k<(sheetOf p).l.length):(MZ (bkI p I) (sheetOf p).l[k].s).length<=30000:=by
 have j:=H9 n q;generalize(sheetOf p).l[k].s=t at*
 have r:=Vw t.x;have u:=x1v t.args;have v:(inAt (bkI p I) t).length<=25:=h.len25 m (caI (bkI p I).s.p t).toNat;have y:wX t.x+PV t.args<=21000:=by
  cases t;simp only[wS,S.x,S.args]at j⊢;omega
 have z:(S6 t).length<=(XP t.x).length+1:=by
  unfold S6;rw[x7u];split<;>simp
 unfold MZ;split
 ·simp only[x7u];omega
 ·omega
def Vx{n:Str}(h:isName n=true):n.length<=8:=by
 unfold isName at h;split at h
 .rename_i j;exact j.2
 .cases h
def q8c(j:chkB p=true){n:Str}(h:comB p n=true):n.length<=8:=by
 unfold comB at h;rw[z1y]at h;rcases h with h|h
 .rw [show n=GM by simpa using h];decide
 .obtain ⟨s,m,l⟩:=x8e.1 h;rw[show n=s by simpa using l];exact Vx (N9 j m)
theorem x2v(m:chkB p=true)(r:f∈p.A){t:S}(u:t∈flL f.body){n:Str}(h:n∈MY (bkO p O) t):n.length<=8:=by
 have j:t.kind≠10->t.name.length<=8:=fun l=>by
  by_cases q:t.name=[]
  ·rw[q];simp
  ·refine Vx (Mu m r u ?_);unfold XF KU;have:(decide (t.kind≠10) && !(t.name==[]))=true:=by simp[l,q]
   rw[this];simp
 unfold MY at h;split at h
 ·rw[x7y.1 h];exact j (by omega)
 split at h
 ·rcases x7f.1 h with rfl|h
  ·exact j (by omega)
  ·rw[x7y.1 h];decide
 split at h
 ·rw[x7y.1 h];decide
 split at h
 ·unfold q4p at h;rcases x7b.1 h with h|h
  ·rcases x7b.1 h with h|h
   ·split at h
    ·cases h
    ·rw[x7y.1 h];exact j (by omega)
   ·obtain⟨x,z,v,rfl⟩:=Dj.1 h;refine Vx (Mu m r u ?_);have y:x.1∈t.args:=(List.of_mem_zip (z2i z)).1;unfold XF;refine x8s _ (x8h.2 ⟨x.1,y,?_⟩);unfold JP;rw[v.1];simp
  ·exact q8c m (x8d.1 h).2
 ·cases h
noncomputable def UE(p:Pg)(i:Nat)(f:Pr)(a:Nat):List Str:=SJ p i f (QK p).N ((QK p).ins.getD i []) a
noncomputable def IS(p:Pg)(i:Nat)(f:Pr)(a:Nat):List Str:=q3i p i f (QK p).O ((QK p).Q.getD i []) a
def x2f(j:chkB p=true)(x:p.A[i]?=some f)(a:Nat){n:Str}(h:n∈UE p i f a):n.length<=8:=by
 have u:=UF j;have q:=x7t x;unfold UE SJ at h;split at h
 .rw [ZQ]at h;rcases x7b.1 h with h|h
  .exact q8c j ((Lr j).2.sub i n h)
  .refine Vx (Ti j q (x8t _ h))
 split at h
 .cases h
 cases m:(newWay p i f).live.getD a false with
 |false=>rw[m]at h;cases h
 | true=>
   rw[m,x7c,u.N]at h;rw[x7w]at h;unfold dfB at h;rw[x7k]at h;cases r:(sheetOf p).l[QP p.A i+a-1]?with
   |none=>rw[r]at h;cases h
   | some it=>
     rw[r]at h;have h:n∈WA (MY (bkO p (QK p).Q) it.s):=h;rw[ZQ]at h;have t:it.s∈VD p:=by rw[<-JS];exact z1q (x7t r)
     obtain⟨g,v,t⟩:=x8h.1 t;exact x2v j v t h
theorem R2(hf:Fit p)(j:chkB p=true)(n:p.A[i]?=some f):
  FlB (QK p) i (newWay p i f) (cntL f.body+2) (LK (newWay p i f) f) (YT (newWay p i f) f) (UE p i f) (IS p i f) (fun c=>QT p i (cntL f.body+2:Nat) c):=by
 have e:=UF j;obtain⟨z,v⟩:=Lr j;have hT:=q8q j n;have g:i<p.A.length:=(x7h.1 n).1;have E:(QK p).ways[i]?=some (newWay p i f):=by rw[e.ways,B8 g,UU n]
 have hI:(QK p).ins[i]?=some ((QK p).ins.getD i []):=by rw[x7w,x7x (by rw[v.len];exact g)];rfl
 have hO:(QK p).Q[i]?=some ((QK p).Q.getD i []):=by rw[x7w,x7x (by rw[z.len];exact g)];rfl
 have M:(QK p).N.length=(sheetOf p).l.length:=by rw[e.N];exact Fy p _
 have R:(QK p).O.length=(sheetOf p).l.length:=by rw[e.O];exact x7z _
 have B:=v.len25 j i;have hO25:=z.len25 j i;have hp8:f.C.length<=8:=((JB (QY j).1).pr f (x7t n)).1;have F:∀d∈(QK p).N,d.Pairwise ltT/\d.length<=34:=fun d m=>by
  rw[e.N]at m;obtain⟨it,Z,rfl⟩:=x7d.1 m;have ht:it.s∈VD p:=by rw[<-JS];exact z1q Z
  exact⟨ZF _,x8m (JL _) (V0 j z ht)⟩
 have J:∀d∈(QK p).O,d.Pairwise ltT/\d.length<=30000:=fun d m=>by
  rw[e.O]at m;obtain⟨it,Z,rfl⟩:=x7d.1 m;obtain⟨k,hk,rfl⟩:=x9s.1 Z;exact⟨ZF _,x8m (JL _) (x1u hf j v hk)⟩
 have hcn:=XQ j;have hcb:=KZ _ _ (x7t n);have t:∀a,(UE p i f a).length<=34:=fun a=>OW (fun d m=>(F d m).2) B hp8 a;have Y:∀a,(UE p i f a).Pairwise ltT:=fun a=>N8 (fun d m=>(F d m).1) a;have G:∀a,(UE p i f a).Nodup:=fun a=>UL (Y a);have u:∀y:Str,y∈(mapG (prsG (UE p i f) (cntL f.body+2))).map Prod.fst->y.length<=8:=fun y hy=>by
  obtain⟨a,ha⟩:=OA _ hy;exact x2f j n a (q6t ha).2
 have hdl:=Fv j n;refine⟨E,hT.hn,rfl,W6 _ f _ hT,JU _ f hT.hj hT.hc (by have:=hT.hn;have:=hT.hw;omega) _ (by omega),?_,?_,?_,?_,?_,?_,?_,?_,?_⟩
 ·exact Y1 (QK p) p i f _ hT.hn E rfl (UE p i f) (fun a ha=>Ui (QK p) p e.s j i f n E _ hI (by omega) M a ha) fun a=>by have:=t a;omega
 ·exact fun c h=>Uo (QK p) p e.s j i f n E _ hO (by omega) R c h
 ·exact fun at_ h1 h2=>(Y0 (QK p) i _ E _ hT.hn rfl (YT (newWay p i f) f) (by show(List.map _ _).length<=_;rw[x7z];omega) (HD j n) at_ h1 h2).mono fun r hr=>hr.eq
 ·exact fun c h=>UX _ f hT.hj hT.hc (by have:=hT.hn;have:=hT.hw;omega) c (by have:=hT.hn;omega)
 ·intro c;refine⟨Ih (fun d m=>(J d m).1) c,?_⟩;unfold IS q3i;split
  ·refine x8m (JL _) ?_;rw[x7u,x8k];omega
  split
  ·simp
  cases(newWay p i f).live.getD c false with
  |false=>simp
  |true=>exact x8m (LN (Q:=fun l=>l.length<=30000) (by simp) (fun d m=>(J d m).2) _) (by decide)
 ·intro s q;obtain⟨L,hnm,q⟩:=x8h.1 q;have h8:=u L hnm;unfold outN at q;obtain⟨c,V,q⟩:=x8h.1 q;obtain⟨x,_,q⟩:=x8h.1 q;split at q
  ·rw[x7y.1 q];have hle:QP p.A i<=1000:=x8m (Rh _ _) (by omega);have H:∀c:Nat,c<cntL f.body+2->QT p i (cntL f.body+2:Nat) c≠9223372036854775807:=fun c h=>by
    unfold QT loI;split
    ·decide
    split
    ·decide
    ·omega
   refine⟨H _ ?_,H _ (x8n.1 V),by show L.length<=maxLen;unfold maxLen;omega⟩;rw[x7w];cases hq:(atN (UE p i f) (cntL f.body+2) L)[x.toNat]?with
   |none=>show 0<_;omega
   |some a=>exact A0 (x7t hq)
  ·cases q
 ·exact AQ (by omega) t G
 ·intro L;rw[RL G];exact x8m (x9n _ _) (by rw[x9t];exact hT.hn)
 ·exact fun y hy=>by have:=u y hy;unfold maxLen;omega
noncomputable def YI(p:Pg)(i:Nat)(f:Pr):List Fl:=JX (((mapG (prsG (UE p i f) (cntL f.body+2))).map Prod.fst).flatMap (outN (UE p i f) (IS p i f) (fun c=>QT p i (cntL f.body+2:Nat) c) (cntL f.body+2) (YT (newWay p i f) f)))
noncomputable def YE(p:Pg)(n:Str):List Fl:=if chkB p=true/\0<=JM p n then YI p (JM p n).toNat (prA p (JM p n).toNat)else []
def Xu(j:Fit p)(h:chkB p=true)(l:p.A[i]?=some f):(YI p i f).length<=1000000000:=by
 unfold YI;rw[Hw];exact(R2 j h l).cnt
def Kb(j:Fit p)(h:chkB p=true)(l:p.A[i]?=some f):SpecP prog 57 [.ip (QK p).cells,.int .i64 i] (fun r=>r=.sl ((YI p i f).map Za)):=Ue _ i _ _ _ _ _ _ _ (R2 j h l)
theorem TD(p:Pg)(g:Fit p)(n:Str):SpecP prog 18 [.agg p.cells,.str n] (fun r=>r=.sl ((YE p n).map Za)):=by
 refine sB Sy func18 rfl call18 ?_;conv=>whnf
 have C:=LL p g;cases t:chkB p with
 | false=>
   have e:YE p n=[]:=by unfold YE;rw[if_neg (by rw[t];simp)]
   rw[e];have l:=C.mono (R':=fun r=>r=.nilp) fun r A=>A.2 t;repeat' (refine cP l ?_;conv=>whnf)
   all_goals first
    |contradiction
    |exact⟨_,.p Sub.nils,rfl⟩
 | true=>
   have l:=C.mono (R':=fun r=>r=.ip (QK p).cells) fun r A=>A.1 t;have F:=UF t;have J:(QK p).s.p=p:=by rw[F.s];exact(QU p).1
   have y:=XM (QK p).s n;rw[J]at y;have q:SpecP prog 51 [.ip (QK p).s.cells,.str n] (fun r=>r=.int .i64 (JM p n)):=y;have e:YE p n=if 0<=JM p n then YI p (JM p n).toNat (prA p (JM p n).toNat)else []:=by
    unfold YE;by_cases m:0<=JM p n
    ·rw[if_pos ⟨t,m⟩,if_pos m]
    ·rw[if_neg (fun h=>m h.2),if_neg m]
   rw[e];by_cases m:0<=JM p n
   ·rw[if_pos m];have z:=Rb m;have v:=Kb g t (W2 z);have E:=Xu g t (W2 z);have H:(((JM p n).toNat:Nat):Int)=JM p n:=by omega
    rw[H]at v;generalize YI p (JM p n).toNat (prA p (JM p n).toNat)=L at*
    generalize JM p n=i at*
    generalize QK p=b at*
    repeat' (first|((first|(refine iM fun _=>?_)|refine cP l ?_|refine cP q ?_|refine cP v ?_);conv=>whnf)|(apply bD<;>intro _<;>first|omega|conv=>whnf))
    all_goals try (exfalso;omega)
    have c:(L.map Za).length=L.length:=x7z _;refine LoopK.inv QV (fun j:Nat=>⟨[(6,.hd 0 0 (L.take j).length),(29,.p (.sl (L.map Za))),(30,.p (.int .i64 (L.map Za).length)),(31,.j j)],[(0,.own 40 3 ((L.take j).map Za))]⟩) (fun j=>j<=L.length) (fun j=>L.length-j) 0
     (Le.mk [(0,.own 40 3 [])] (by simp[Chunk.new0];rfl) (by simp) (by simp) (.cons (.nil x7v) (.r (.r (.r .nil)))) (.new x7v .nil)) (x7p _) ?_
    intro j R;rcases x7m j L.length with u|u
    ·have B:=x7r u;have Q:(L.map Za)[j]?=some (.agg L[j].cells):=by rw[x7k,x7x u];rfl
     have G:(L.take j).length<=1000000000:=by rw[x8q];omega
     generalize L.take j=acc at*
     have d:(acc.map Za).length=acc.length:=x7z _;conv=>whnf
     repeat' (first|((first|refine x7g rfl ?_|refine aD ?_|refine bP ?_|(refine iA fun _=>?_)|refine wI ?_|refine z0w d.symm rfl (by show(acc.length+1)*32<=140737488355328;omega) (by show acc.length+1<=9223372036854775807;omega) (fun x M=>by rcases x7y.1 M with rfl;exact⟨rfl,rfl⟩) ?_);conv=>whnf)|(apply bD<;>intro _<;>first|omega|conv=>whnf))
     all_goals first
      |exact⟨j+1,u,by omega,Le.of_eq (by rw[B,x7u,x7n];rfl)⟩
    ·rw[x7a u];conv=>whnf
     repeat' (apply bD<;>intro _<;>first|omega|conv=>whnf)
     all_goals first
      |exact⟨_,.hd rfl c.symm,rfl⟩
   ·rw[if_neg m];generalize JM p n=i at*
    generalize QK p=b at*
    repeat' (first|((first|refine cP l ?_|refine cP q ?_);conv=>whnf)|(apply bD<;>intro _<;>first|omega|conv=>whnf))
    all_goals first
     |contradiction
     |exact⟨_,.p Sub.nils,rfl⟩
def Ua(b:Book)(i:Nat)(w:Way)(n:Nat)(L:List Step)(steps:List (Int×Int))(G T:Nat->List Str)(m:Nat->Int)(F:FlB b i w n L steps G T m):SpecP prog 52 [.ip b.cells,.int .i64 i] (fun r=>r=.tup [.int .i64 n,.int .i64 (prsG G n).length]):=by
 refine sB Qr func52 rfl call52 ?_;conv=>whnf
 have j:(b.ways.map fun w=>AV.ip w.cells)[i]?=some (.ip w.cells):=by rw[x7k,F.hW];rfl
 have h:=F.giv;have l:=F.hwn;repeat' (first|(refine IdxK.at (k:=i) rfl j rfl ?_;conv=>whnf)|(refine cH [] 0 h ?_ (hH:=z0z);conv=>whnf))
 all_goals first
  |exact⟨_,.p (Sub.tup (.cons (Sub.int l) (.cons (Sub.refl _) .nil))),rfl⟩
noncomputable def PY(p:Pg)(n:Str):Int×Int:=if chkB p=true/\0<=JM p n then((cntL (prA p (JM p n).toNat).body+2:Nat),((prsG (UE p (JM p n).toNat (prA p (JM p n).toNat)) (cntL (prA p (JM p n).toNat).body+2)).length:Nat))else(0,0)
theorem Rp(p:Pg)(c:Fit p)(n:Str):SpecP prog 15 [.agg p.cells,.str n] (fun r=>r=.tup [.int .i64 (PY p n).1,.int .i64 (PY p n).2]):=by
 refine sB Hs func15 rfl call15 ?_;conv=>whnf
 have z:=LL p c;cases q:chkB p with
 | false=>
   have e:PY p n=(0,0):=by unfold PY;rw[if_neg (by rw[q];simp)]
   rw[e];have j:=z.mono (R':=fun r=>r=.nilp) fun r y=>y.2 q;repeat' (refine cP j ?_;conv=>whnf)
   all_goals first
    |contradiction
    |exact⟨_,.p (Sub.refl _),rfl⟩
 | true=>
   have j:=z.mono (R':=fun r=>r=.ip (QK p).cells) fun r y=>y.1 q;have d:=UF q;have A:(QK p).s.p=p:=by rw[d.s];exact(QU p).1
   have u:=XM (QK p).s n;rw[A]at u;have l:SpecP prog 51 [.ip (QK p).s.cells,.str n] (fun r=>r=.int .i64 (JM p n)):=u;by_cases v:0<=JM p n
   ·have x:=Rb v;have t:=Ua _ _ _ _ _ _ _ _ _ (R2 c q (W2 x));have e:PY p n=(((cntL (prA p (JM p n).toNat).body+2:Nat):Int),(((prsG (UE p (JM p n).toNat (prA p (JM p n).toNat)) (cntL (prA p (JM p n).toNat).body+2)).length:Nat):Int)):=by unfold PY;rw[if_pos ⟨q,v⟩]
    rw[e];have g:(((JM p n).toNat:Nat):Int)=JM p n:=by omega
    rw[g]at t;generalize(prsG (UE p (JM p n).toNat (prA p (JM p n).toNat)) (cntL (prA p (JM p n).toNat).body+2)).length=m at*
    generalize cntL (prA p (JM p n).toNat).body+2=m2 at*
    generalize JM p n=i at*
    generalize QK p=b at*
    repeat' (first|((first|refine cP j ?_|refine cP l ?_|refine cP t ?_);conv=>whnf)|(apply bD<;>intro _<;>first|omega|conv=>whnf))
    all_goals first
     |contradiction
     |(exfalso;omega)
     |exact⟨_,.p (Sub.refl _),rfl⟩
   ·have e:PY p n=(0,0):=by unfold PY;rw[if_neg (fun h=>v h.2)]
    rw[e];generalize JM p n=i at*
    generalize QK p=b at*
    repeat' (first|((first|refine cP j ?_|refine cP l ?_);conv=>whnf)|(apply bD<;>intro _<;>first|omega|conv=>whnf))
    all_goals first
     |contradiction
     |exact⟨_,.p (Sub.refl _),rfl⟩
def Us(id:Int)(h:Str)(l:List Fl):List Int:=(l.filter fun s=>decide (s.dst=id)&&(s.var==h)).map Fl.src
noncomputable def Fd(p:Pg)(id:Int)(h:Str):List Int:=if chkB p=true/\1<=id/\id<=(sheetOf p).l.length then Us id h (YE p (Ff p id).2.1)else []
def SV(id:Int)(m:Str){l:List Fl}{j:Nat}(h:j<l.length):Us id m (l.take (j+1))=Us id m (l.take j)++if l[j].dst=id/\l[j].var=m then [l[j].src]else []:=by
 unfold Us;rw[x7r h,z0u,x7n];congr 1;by_cases n:l[j].dst=id<;>by_cases q:l[j].var=m<;>simp[n,q]
def AU(id:Int)(h:Str)(l:List Fl):(Us id h l).length<=l.length:=by
 unfold Us;rw[x7z];exact x9n _ _
theorem Pe(n:chkB p=true)(u:p.A[k]?=some f){h:Str}(l:wayO p h=some (newWay p k f)):YE p h=YI p k f:=by
 have q:JM p h=k:=by
  unfold wayO at l;rw[n,x7c]at l;cases m:p.A.find? fun f=>f.name==h with
  |none=>rw[m]at l;cases l
  | some g=>
    rw[m]at l;have r:some (p.A.findIdx fun f=>f.name==h)=some k:=x9l (Option.map Way.j) l;have t:(p.A.any fun f=>f.name==h)=true:=x8e.2 ⟨g,z0g m,z1j (p:=fun f:Pr=>f.name==h) m⟩;unfold JM idxF;rw[t,x7c,z0m r]
 unfold YE;rw[q,if_pos ⟨n,by omega⟩,z0h,UU u]
theorem Cv(p:Pg)(A:Fit p)(id:Int)(m:Str):SpecP prog 32 [.agg p.cells,.int .i64 id,.str m] (fun r=>r=QB (Fd p id m)):=by
 refine sB Bp func32 rfl call32 ?_;conv=>whnf
 have H:=LL p A;cases n:chkB p with
 | false=>
   have e:Fd p id m=[]:=by unfold Fd;rw[if_neg (by rw[n];simp)]
   rw[e];have t:=H.mono (R':=fun r=>r=.nilp) fun r F=>F.2 n;repeat' (refine cP t ?_;conv=>whnf)
   all_goals first
    |contradiction
    |exact⟨_,.p Sub.nils,rfl⟩
 | true=>
   have t:=H.mono (R':=fun r=>r=.ip (QK p).cells) fun r F=>F.1 n;have g:=UF n;have u:=KP (QK p).s id;have hll:=(QU p).2.2.2.1;have Y:=XQ n;by_cases v:1<=id/\id<=(sheetOf p).l.length
   ·obtain⟨k,f,it,c,J,C,hw,G⟩:=As n v.1 v.2;have y:=q5i n c J;rw[C]at y;have E:it.D=k:=HJ _ _ _ _ _ _ it J;have d:=Kb A n c;have Q:=Xu A n c;have B:YE p (Ff p id).2.1=YI p k f:=Pe n c hw;have e:Fd p id m=Us id m (YI p k f):=by unfold Fd;rw[if_pos ⟨n,v⟩,B]
    rw[e];have Z:((QK p).s.l.map fun i=>AV.agg i.cells)[(id-1).toNat]?=some (.agg it.cells):=by rw[g.s,x7k,y];rfl
    have x:(decide (1<=id)&&decide (id<=((QK p).s.l.length:Int)))=true:=by rw[g.s];simp[v.1,v.2]
    rw[x]at u;generalize YI p k f=L at*
    generalize QK p=b at*
    repeat' (first|((first|(refine iM fun _=>?_)|refine wI ?_|refine cP t ?_|refine cP u ?_|(refine IdxK.at (k:=(id-1).toNat) (by omega) Z rfl ?_)|(refine CallK.pure d (.cons (Sub.refl _) (.cons (Sub.int E) .nil)) ?_;rintro _ rfl));conv=>whnf)|(apply bN<;>intro _<;>conv=>whnf))
    all_goals try contradiction
    all_goals try (exfalso;omega)
    have R:(L.map Za).length=L.length:=x7z _;refine LoopK.inv QV (fun j:Nat=>⟨[(1,.j id),(2,.p (.str m)),(8,.hd 0 0 (Us id m (L.take j)).length),(37,.p (.sl (L.map Za))),(38,.p (.int .i64 (L.map Za).length)),(39,.j j)],[(0,.own 3 1 ((Us id m (L.take j)).map (.int .i64)))]⟩) (fun j=>j<=L.length) (fun j=>L.length-j) 0
     (Le.mk [(0,.own 3 1 [])] (by simp[Chunk.new0];rfl) (by simp) (by simp) (.r (.r (.cons (.nil x7v) (.r (.r (.r .nil)))))) (.new x7v .nil)) (x7p _) ?_
    intro j hj;have V:(Us id m (L.take j)).length<=1000000000:=x8m (AU _ _ _) (by rw[x8q];omega);rcases x7m j L.length with q|q
    ·have z:=SV id m q;have eL:(L.map Za)[j]?=some (.agg L[j].cells):=by rw[x7k,x7x q];rfl
     generalize Us id m (L.take j)=acc at*
     conv=>whnf
     repeat' (first|((first|refine x7g rfl ?_|refine aD ?_|refine bP ?_|(refine iA fun _=>?_)|refine wI ?_|refine XX (by simp) (by rw[x7z];omega) ?_);conv=>whnf)|(apply bD<;>intro _<;>first|omega|conv=>whnf)|(apply bB<;>intro _<;>conv=>whnf))
     all_goals first
      |exact⟨j+1,q,by omega,Le.of_eq (by rw[z,if_pos ⟨by assumption,by simpa using(show(L[j].var==m)=true by assumption)⟩];simp only[x7u,x7n];rfl)⟩
      |exact⟨j+1,q,by omega,Le.of_eq (by rw[z,if_neg (by rintro⟨h8,h9⟩;simp_all),x9q];rfl)⟩
    ·rw[x7a q];conv=>whnf
     repeat' (apply bD<;>intro _<;>first|omega|conv=>whnf)
     all_goals first
      |exact⟨_,.hd rfl (by simp),rfl⟩
   ·have e:Fd p id m=[]:=by unfold Fd;rw[if_neg (fun h=>v h.2)]
    rw[e];have x:(decide (1<=id)&&decide (id<=((QK p).s.l.length:Int)))=false:=by
     rw[g.s];by_cases q:1<=id
     ·have:¬id<=((sheetOf p).l.length:Int):=fun M=>v ⟨q,M⟩;simp[this]
     ·simp[q]
    rw[x]at u;generalize QK p=b at*
    repeat' (first|((first|refine cP t ?_|refine cP u ?_);conv=>whnf)|(apply bN<;>intro _<;>conv=>whnf))
    all_goals first
     |contradiction
     |exact⟨_,.p Sub.nils,rfl⟩
end Go.Ab
