/- The reference's lists held against each other. -/
import Derived.Test.YtneccajakpeodaaGreatCfgA10
import Derived.Test.YtneccajakpeodaaGreatCfgA13
import Derived.Test.YtneccajakpeodaaGreatCfgA14
import Derived.Test.YtneccajakpeodaaGreatCfgA15
set_option linter.unusedSimpArgs false
set_option linter.unusedVariables false
set_option maxRecDepth 100000
set_option maxHeartbeats 16000000
namespace Go.Ab
open Go.Proofs
theorem ValO.stepsNe {hr:Bool} {s:St} {o:Oper} {K:LV→Prop} {x y:Operand} {u:TypeId} (hop:o.op = .binOp .neq 79 x y u) {a b:Step} (hx:QA s.sl x = .p (.agg a.cells)) (hy:QA s.sl y = .p (.agg b.cells))
  (hK:K (.p (.bool (!decide (a=b))))):ValO Tryz.prog hr s o K:=by
 refine ⟨fun σ β ac w hs _=>⟨_,.bool (!decide (a=b)),hK,.p (.bool _),fun w' _ _ => ?_⟩⟩
 have h1:ac.eval x = .agg #[.int .i64 a.src,.int .i64 a.dst,.int .i64 a.kind]:=by
  have:=QU hs x
  rw [hx] at this
  cases this with
  | p h=>exact x7x h
 have h2:ac.eval y = .agg #[.int .i64 b.src,.int .i64 b.dst,.int .i64 b.kind]:=by
  have:=QU hs y
  rw [hy] at this
  cases this with
  | p h=>exact x7x h
 have hu:Tryz.prog.underlying 79=some (.struct (Tryz.prog.fieldsOf 79)):=by kernel_rfl
 have hi:Tryz.prog.underlying 3=some (.int .i64):=by kernel_rfl
 have hf:(Tryz.prog.fieldsOf 79).toList=(match ty79.desc with | .struct fs=>fs.toList|_=>[]):=by kernel_rfl
 have he:(Op.equalIn 10000 79 (.agg #[.int .i64 a.src,.int .i64 a.dst,.int .i64 a.kind]) (.agg #[.int .i64 b.src,.int .i64 b.dst,.int .i64 b.kind])).run Tryz.prog w' = .ok (decide (a=b)) w':=by
  rw [run_equalIn_struct w' 9999 _ _ _ hu (by kernel_rfl),hf]
  simp only [ty79,Op.eqFields]
  have p0 : ∀ x y z:Int,(part 3 #[.int .i64 x,.int .i64 y,.int .i64 z] 0).run Tryz.prog w' = .ok (.int .i64 x) w':=fun x y z=>run_part_plain w' (by kernel_rfl) rfl
  have p1 : ∀ x y z:Int,(part 3 #[.int .i64 x,.int .i64 y,.int .i64 z] 1).run Tryz.prog w' = .ok (.int .i64 y) w':=fun x y z=>run_part_plain w' (by kernel_rfl) rfl
  have p2 : ∀ x y z:Int,(part 3 #[.int .i64 x,.int .i64 y,.int .i64 z] 2).run Tryz.prog w' = .ok (.int .i64 z) w':=fun x y z=>run_part_plain w' (by kernel_rfl) rfl
  have ei : ∀ x y:Int,(Op.equalIn 9999 3 (.int .i64 x) (.int .i64 y)).run Tryz.prog w' = .ok (x==y) w':=fun a b=>run_equalIn_int (P:=Tryz.prog) w' 9998 3 .i64 .i64 a b hi
  have e:decide (a=b)=((a.src==b.src)&&((a.dst==b.dst)&&(a.kind==b.kind))):=by
   cases a;cases b
   simp only [Step.mk.injEq,Bool.decide_and]
   rfl
  simp only [ne_eq,show ¬("From" = "_") by decide,show ¬("To" = "_") by decide,show ¬("Kind" = "_") by decide,not_false_eq_true,if_true,Sem.run_bind,p0,p1,p2,Result.andThen_ok,ei,Sem.run_ite,Sem.run_pure,e]
  cases (a.src==b.src)<;>cases (a.dst==b.dst)<;>cases (a.kind==b.kind)<;>simp
 simp only [execOp,hop,h1,h2,Sem.run_bind,run_eqGuard_agg _ _ _ _ _ _ _ (show Tryz.prog.eqGuardType Tryz.prog.depth 79=false by kernel_rfl),Result.andThen_ok,run_neq_struct,he,Sem.run_pure]
theorem q3l {α:Type} {l m:List α} {j:Nat} (h:l.take j=m.take j) (hl:j<l.length) (hm:j<m.length) (he:l[j]=m[j]):l.take (j+1)=m.take (j+1):=by
 rw [List.take_succ_eq_append_getElem hl,List.take_succ_eq_append_getElem hm,h,he]
theorem q8o {α:Type} {l m:List α} {j:Nat} (h:l.take j=m.take j) (hl:l.length≤j) (hm:m.length≤j):l=m:=by
 rwa [List.take_of_length_le hl,List.take_of_length_le hm] at h
theorem FW (l m:List Step):SpecP Tryz.prog 22 [QO l,QO m] (fun r=>r = .bool (decide (l=m))):=by
 refine SpecP.body GJ QQ Tryz.func22 rfl Tryz.call22 (by show 2≤_;decide) ?_
 conv=>whnf
 have h1:(l.map fun s=>AV.agg s.cells).length=l.length:=List.length_map _
 have h2:(m.map fun s=>AV.agg s.cells).length=m.length:=List.length_map _
 repeat' (first|(intro (_:_≤9223372036854775807);conv=>whnf)|(refine Br.dec2 (fun _=>?_) (fun _=>?_)<;>first|(exfalso;omega)|conv=>whnf))
 all_goals first
  | exact RetK.ff (decide_eq_false fun h=>by subst h;omega)
  | skip
 have hlen:l.length=m.length:=by omega
 refine LoopK.inv QQ (fun j:Nat=>⟨[(0,.p (QO l)),(1,.p (QO m)),(12,.p (.int .i64 (l.map fun s=>AV.agg s.cells).length)),(13,.p (.int .i64 j))],[]⟩) (fun j=>j≤l.length∧l.take j=m.take j) (fun j=>l.length-j) 0 (Le.of_eq rfl) ⟨Nat.zero_le _,rfl⟩ ?_
 rintro j ⟨h3,h4⟩
 rcases Nat.lt_or_ge j l.length with hj|hj
 ·conv=>whnf
  repeat' (first|((first|refine DrawK.auto QQ mixed (by kernel_rfl) ?_|refine IdxK.map (by omega) (fun _=>rfl) ?_|refine Wr.i64 (by omega) (by omega) ?_|refine ValO.stepsNe rfl rfl rfl ?_);conv=>whnf)|(refine Br.dec (fun _=>?_) (fun _=>?_)<;>first|(exfalso;omega)|conv=>whnf)|(refine Br.dec2 (fun _=>?_) (fun _=>?_)<;>first|(exfalso;omega)|conv=>whnf))
  all_goals first
   | exact RetK.ff (decide_eq_false fun h=>by subst h;simp_all)
   | exact ⟨j+1,⟨by omega,q3l h4 hj (by omega) (by simp_all)⟩,by omega,Le.of_eq rfl⟩
 ·conv=>whnf
  repeat' (refine Br.dec (fun _=>?_) (fun _=>?_)<;>first|(exfalso;omega)|conv=>whnf)
  exact RetK.tt (decide_eq_true (q8o h4 hj (by omega)))
theorem DA (l m:List Int):SpecP Tryz.prog 25 [ZQ l,ZQ m] (fun r=>r = .bool (decide (l=m))):=by
 refine SpecP.body HZ QQ Tryz.func25 rfl Tryz.call25 (by show 2≤_;decide) ?_
 conv=>whnf
 have h1:(l.map (AV.int .i64)).length=l.length:=List.length_map _
 have h2:(m.map (AV.int .i64)).length=m.length:=List.length_map _
 repeat' (first|(intro (_:_≤9223372036854775807);conv=>whnf)|(refine Br.dec2 (fun _=>?_) (fun _=>?_)<;>first|(exfalso;omega)|conv=>whnf))
 all_goals first
  | exact RetK.ff (decide_eq_false fun h=>by subst h;omega)
  | skip
 have hlen:l.length=m.length:=by omega
 refine LoopK.inv QQ (fun j:Nat=>⟨[(0,.p (ZQ l)),(1,.p (ZQ m)),(12,.p (.int .i64 (l.map (AV.int .i64)).length)),(13,.p (.int .i64 j))],[]⟩) (fun j=>j≤l.length∧l.take j=m.take j) (fun j=>l.length-j) 0 (Le.of_eq rfl) ⟨Nat.zero_le _,rfl⟩ ?_
 rintro j ⟨h3,h4⟩
 rcases Nat.lt_or_ge j l.length with hj|hj
 ·conv=>whnf
  repeat' (first|((first|refine DrawK.auto QQ mixed (by kernel_rfl) ?_|refine IdxK.map (by omega) (fun _=>rfl) ?_|refine Wr.i64 (by omega) (by omega) ?_);conv=>whnf)|(refine Br.dec (fun _=>?_) (fun _=>?_)<;>first|(exfalso;omega)|conv=>whnf)|(refine Br.dec2 (fun _=>?_) (fun _=>?_)<;>first|(exfalso;omega)|conv=>whnf))
  all_goals first
   | exact RetK.ff (decide_eq_false fun h=>by subst h;simp_all)
   | exact ⟨j+1,⟨by omega,q3l h4 hj (by omega) (by simp_all)⟩,by omega,Le.of_eq rfl⟩
 ·conv=>whnf
  repeat' (refine Br.dec (fun _=>?_) (fun _=>?_)<;>first|(exfalso;omega)|conv=>whnf)
  exact RetK.tt (decide_eq_true (q8o h4 hj (by omega)))
theorem BX (l m:List Str):SpecP Tryz.prog 28 [QH l,QH m] (fun r=>r = .bool (decide (l=m))):=by
 refine SpecP.body HV QQ Tryz.func28 rfl Tryz.call28 (by show 2≤_;decide) ?_
 conv=>whnf
 have h1:(l.map AV.str).length=l.length:=List.length_map _
 have h2:(m.map AV.str).length=m.length:=List.length_map _
 repeat' (first|(intro (_:_≤9223372036854775807);conv=>whnf)|(refine Br.dec2 (fun _=>?_) (fun _=>?_)<;>first|(exfalso;omega)|conv=>whnf))
 all_goals first
  | exact RetK.ff (decide_eq_false fun h=>by subst h;omega)
  | skip
 have hlen:l.length=m.length:=by omega
 refine LoopK.inv QQ (fun j:Nat=>⟨[(0,.p (QH l)),(1,.p (QH m)),(12,.p (.int .i64 (l.map AV.str).length)),(13,.p (.int .i64 j))],[]⟩) (fun j=>j≤l.length∧l.take j=m.take j) (fun j=>l.length-j) 0 (Le.of_eq rfl) ⟨Nat.zero_le _,rfl⟩ ?_
 rintro j ⟨h3,h4⟩
 rcases Nat.lt_or_ge j l.length with hj|hj
 ·conv=>whnf
  repeat' (first|((first|refine DrawK.auto QQ mixed (by kernel_rfl) ?_|refine IdxK.map (by omega) (fun _=>rfl) ?_|refine Wr.i64 (by omega) (by omega) ?_);conv=>whnf)|(refine Br.dec (fun _=>?_) (fun _=>?_)<;>first|(exfalso;omega)|conv=>whnf)|(refine Br.n (fun _=>?_) (fun _=>?_)<;>conv=>whnf))
  all_goals first
   | exact RetK.ff (decide_eq_false fun h=>by subst h;simp_all)
   | exact ⟨j+1,⟨by omega,q3l h4 hj (by omega) (by simp_all)⟩,by omega,Le.of_eq rfl⟩
 ·conv=>whnf
  repeat' (refine Br.dec (fun _=>?_) (fun _=>?_)<;>first|(exfalso;omega)|conv=>whnf)
  exact RetK.tt (decide_eq_true (q8o h4 hj (by omega)))
open Go.Proofs
open Go.Proofs
open Go.Proofs
open Go.Proofs
open Go.Proofs
open Go.Proofs
open Go.Proofs
open Go.Proofs
open Go.Proofs
section
variable {p:Pg} {j:Nat} {f:Pr}
end
open Go.Proofs
def w0s (k:Int) (x:RI):Bool:=decide (k=0)||decide (x.s.kind=k)
def w0x (p:Pg) (k:Int):List Int:=((allR p).filter (w0s k)).map fun x=>x.s.id
theorem x7p : ∀ (l:List Pr) (k:Nat),k<WA l → ∃ j f,l[j]? = some f∧QT l j≤k∧k<QT l j+QY f.body
 | [],k,h=>by rw [WA] at h;omega
 | g::r,k,h=>by
   rw [WA] at h
   rcases Nat.lt_or_ge k (QY g.body) with hk|hk
   ·exact ⟨0,g,rfl,by rw [QT];omega,by rw [QT];omega⟩
   ·obtain ⟨j,f,h1,h2,h3⟩:=x7p r (k-QY g.body) (by omega)
    exact ⟨j+1,f,by simpa using h1,by rw [QT];omega,by rw [QT];omega⟩
open Go.Proofs
namespace Own
end Own
open Go.Proofs
theorem z1y {proc up nx lp:Int} {n:Nat} {nest m:Int} {l:List S} (h:ZW nest n l=some m) {it:Item} (hi:it∈itL proc up nx lp n l):(n:Int)+1≤it.s.id∧it.s.id≤(n:Int)+QY l:=by
 have h1:it.s∈flL l:=by
  rw [← ND proc up nx lp n l]
  exact List.mem_map.2 ⟨it,hi,rfl⟩
 have h2:it.s.id∈KH n (QY l):=by
  rw [← UL nest l h]
  exact List.mem_map.2 ⟨it.s,h1,rfl⟩
 have:=q2s h2
 omega
open Go.Proofs
def itemR (l:List RI) (id:Int):RI:=(l.find? fun x=>decide (x.s.id=id)).getD RI0
def inI (i:Int) (e:Bool) (y:RI):Bool:=decide (y.inn=i)&&(y.els==e)
def stdR (l:List RI) (x:RI):List Int:=(l.filter (inI x.inn x.els)).map fun y=>y.s.id
def nextIn:List Int→Int→Option Int
 | a::b::r,x=>if a=x then some b else nextIn (b::r) x
 | _,_=>none
inductive BehP (l:List RI):Int→Int→Prop
 | next {id v:Int} (h:nextIn (stdR l (itemR l id)) id=some v):BehP l id v
 | exit {id:Int} (h:nextIn (stdR l (itemR l id)) id=none) (h0:(itemR l id).inn=0):BehP l id (-1)
 | loop {id:Int} (h:nextIn (stdR l (itemR l id)) id=none) (h0:(itemR l id).inn≠0) (hk:(itemR l (itemR l id).inn).s.kind=6):BehP l id (itemR l id).inn
 | up {id v:Int} (h:nextIn (stdR l (itemR l id)) id=none) (h0:(itemR l id).inn≠0) (hk:(itemR l (itemR l id).inn).s.kind≠6) (hb:BehP l (itemR l id).inn v):BehP l id v
def z7c (l:List RI) (id:Int) (e:Bool) (o:Int):Int:=((l.find? (inI id e)).map fun y=>y.s.id).getD o
theorem z1q {l:List RI} (hn:(l.map fun x=>x.s.id).Nodup) {x:RI} (hx:x∈l):itemR l x.s.id=x:=by
 unfold itemR
 cases hf:l.find? fun y=>decide (y.s.id=x.s.id) with
 | none =>
   have:=List.find?_eq_none.1 hf x hx
   simp at this
 | some y =>
   have h1:=List.mem_of_find?_eq_some hf
   have h2:=List.find?_some hf
   simp only [decide_eq_true_eq] at h2
   exact HE hn y h1 x hx h2
mutual
theorem z2x (d i:Int) (e:Bool) : ∀ (t:S) {nest m:Int} {n:Nat},q4w nest n t=some m → ∀ x∈fuS d i e t,(x.s=t∧x.inn=i∧x.els=e)∨((n:Int)+1≤x.inn∧x.inn≤(n:Int)+ZZ t)
 | .mk id kind labels name pr x has args thn els,nest,m,n,h,y,hy=>by
   obtain ⟨_,hid,m1,h3,h4⟩:=ZH h
   have hid:id=(n:Int)+1:=hid
   have hc:ZZ (.mk id kind labels name pr x has args thn els)=1+QY thn+QY els:=ZA _
   have hm1:=ZG _ _ thn h3
   have h3':ZW (nest+1) ((n+1:Nat):Int) thn=some m1:=by rw [← h3];rfl
   have h4':ZW (nest+1) ((n+1+QY thn:Nat):Int) els=some m:=by
    rw [← h4,hm1]
    congr 1
   rw [fuS] at hy
   rcases List.mem_cons.1 hy with rfl|hy
   ·exact .inl ⟨rfl,rfl,rfl⟩
   rcases List.mem_append.1 hy with hy|hy
   ·have:=JM (d+1) id false thn h3' y hy
    refine .inr ?_
    rcases this with h5|h5<;>omega
   ·have:=JM (d+1) id true els h4' y hy
    refine .inr ?_
    rcases this with h5|h5<;>omega
theorem JM (d i:Int) (e:Bool) : ∀ (l:List S) {nest m:Int} {n:Nat},ZW nest n l=some m → ∀ x∈fuL d i e l,(x.inn=i)∨((n:Int)+1≤x.inn∧x.inn≤(n:Int)+QY l)
 | [],_,_,_,_,y,hy=>by rw [fuL] at hy;cases hy
 | t::r,nest,m,n,h,y,hy=>by
   obtain ⟨_,m1,h1,h2⟩:=XL h
   have hm1:=UR _ _ t h1
   have h2':ZW nest ((n+ZZ t:Nat):Int) r=some m:=by rw [← h2,hm1];rfl
   have hc:QY (t::r)=ZZ t+QY r:=by rw [QY]
   rw [fuL] at hy
   rcases List.mem_append.1 hy with hy|hy
   ·rcases z2x d i e t h1 y hy with h5|h5
    ·exact .inl h5.2.1
    ·refine .inr ?_
     omega
   ·rcases JM d i e r h2' y hy with h5|h5
    ·exact .inl h5
    ·refine .inr ?_
     omega
end
theorem ZT {α:Type} {l:List α} {q:α→Bool} (h : ∀ x∈l,q x=false):l.filter q=[]:=by
 rw [List.filter_eq_nil_iff]
 intro x hx
 rw [h x hx]
 decide
theorem NP {i:Int} {e:Bool} {y:RI} (h:y.inn≠i):inI i e y=false:=by
 unfold inI
 rw [decide_eq_false h]
 rfl
theorem z8y {i:Int} {e:Bool} {y:RI} (h:y.els≠e):inI i e y=false:=by
 unfold inI
 rw [beq_eq_false_iff_ne.2 h]
 exact Bool.and_false _
theorem z7p {i:Int} {e:Bool} {y:RI} (h:y.inn=i) (h':y.els=e):inI i e y=true:=by
 unfold inI
 rw [decide_eq_true h,h']
 simp
theorem z4t (d i:Int) (e:Bool) : ∀ (l:List S) {nest m:Int} {n:Nat},ZW nest n l=some m→i≤n→((fuL d i e l).filter (inI i e)).map (fun y=>y.s.id)=l.map S.id
 | [],_,_,_,_,_=>by rw [fuL];rfl
 | t::r,nest,m,n,h,hi=>by
   obtain ⟨_,m1,h1,h2⟩:=XL h
   obtain ⟨_,hid,m2,h3,h4⟩:=ZH h1
   have hm1:=UR _ _ t h1
   have h2':ZW nest ((n+ZZ t:Nat):Int) r=some m:=by rw [← h2,hm1];rfl
   have hm2:=ZG _ _ t.thn h3
   have h3':ZW (nest+1) ((n+1:Nat):Int) t.thn=some m2:=by rw [← h3];rfl
   have h4':ZW (nest+1) ((n+1+QY t.thn:Nat):Int) t.els=some m1:=by rw [← h4,hm2];congr 1
   have hn1:=ZT (l:=fuL (d+1) t.id false t.thn) (q:=inI i e) fun x hx=>NP (by rcases JM _ _ _ _ h3' x hx with h5|h5<;>omega)
   have hn2:=ZT (l:=fuL (d+1) t.id true t.els) (q:=inI i e) fun x hx=>NP (by rcases JM _ _ _ _ h4' x hx with h5|h5<;>omega)
   rw [fuL,q6p,List.cons_append,List.filter_cons_of_pos (show inI i e (⟨t,d,i,e⟩:RI)=true from z7p rfl rfl),List.filter_append,List.filter_append,hn1,hn2,List.append_nil,List.nil_append,List.map_cons,z4t d i e r h2' (by omega),List.map_cons]
theorem q4t (d i:Int) (e e':Bool) (he:e≠e') : ∀ (l:List S) {nest m:Int} {n:Nat},ZW nest n l=some m→i≤n→(fuL d i e l).filter (inI i e')=[]
 | [],_,_,_,_,_=>by rw [fuL];rfl
 | t::r,nest,m,n,h,hi=>by
   obtain ⟨_,m1,h1,h2⟩:=XL h
   obtain ⟨_,hid,m2,h3,h4⟩:=ZH h1
   have hm1:=UR _ _ t h1
   have h2':ZW nest ((n+ZZ t:Nat):Int) r=some m:=by rw [← h2,hm1];rfl
   have hm2:=ZG _ _ t.thn h3
   have h3':ZW (nest+1) ((n+1:Nat):Int) t.thn=some m2:=by rw [← h3];rfl
   have h4':ZW (nest+1) ((n+1+QY t.thn:Nat):Int) t.els=some m1:=by rw [← h4,hm2];congr 1
   have hn1:=ZT (l:=fuL (d+1) t.id false t.thn) (q:=inI i e') fun x hx=>NP (by rcases JM _ _ _ _ h3' x hx with h5|h5<;>omega)
   have hn2:=ZT (l:=fuL (d+1) t.id true t.els) (q:=inI i e') fun x hx=>NP (by rcases JM _ _ _ _ h4' x hx with h5|h5<;>omega)
   rw [fuL,q6p,List.cons_append,List.filter_cons_of_neg (by rw [z8y he];decide),List.filter_append,List.filter_append,hn1,hn2,List.append_nil,List.nil_append,q4t d i e e' he r h2' (by omega)]
mutual
theorem w2g (d i:Int) (e:Bool) : ∀ (t:S) {nest m:Int} {n:Nat},q4w nest n t=some m→i≤n → ∀ u∈flS t,∀ b,((fuS d i e t).filter (inI u.id b)).map (fun y=>y.s.id)=(bif b then u.els else u.thn).map S.id
 | .mk id kind labels name pr x has args thn els,nest,m,n,h,hi,u,hu,b=>by
   obtain ⟨_,hid,m1,h3,h4⟩:=ZH h
   have hid:id=(n:Int)+1:=hid
   have hm1:=ZG _ _ thn h3
   have h3':ZW (nest+1) ((n+1:Nat):Int) thn=some m1:=by rw [← h3];rfl
   have h4':ZW (nest+1) ((n+1+QY thn:Nat):Int) els=some m:=by
    rw [← h4,hm1]
    congr 1
   have rg : ∀ {l:List S} {q:Nat} {nest m:Int},ZW nest q l=some m → ∀ u∈flL l,(q:Int)+1≤u.id∧u.id≤(q:Int)+QY l:=fun {l q nest m} hr u hu=>by
    have h2:u.id∈KH q (QY l):=by
     rw [← UL nest l hr]
     exact List.mem_map.2 ⟨u,hu,rfl⟩
    have:=q2s h2
    omega
   have hne:u.id≠i:=by
    rw [flS] at hu
    rcases List.mem_cons.1 hu with rfl|hu
    ·show id≠i
     omega
    rcases List.mem_append.1 hu with hu|hu
    ·have:=rg h3' u hu
     omega
    ·have:=rg h4' u hu
     omega
   rw [fuS,List.filter_cons_of_neg (by rw [NP (Ne.symm hne)];decide),List.filter_append,List.map_append]
   rw [flS] at hu
   rcases List.mem_cons.1 hu with rfl|hu
   ·show List.map _ (List.filter (inI id b) _)++List.map _ (List.filter (inI id b) _)=_
    cases b with
    | true=>rw [q4t (d+1) id false true (by decide) thn h3' (by omega),z4t (d+1) id true els h4' (by omega)];rfl
    | false=>rw [q4t (d+1) id true false (by decide) els h4' (by omega),z4t (d+1) id false thn h3' (by omega),List.map_nil,List.append_nil];rfl
   rcases List.mem_append.1 hu with hu|hu
   ·have hr:=rg h3' u hu
    have hn2:=ZT (l:=fuL (d+1) id true els) (q:=inI u.id b) fun x hx=>NP (by rcases JM _ _ _ _ h4' x hx with h5|h5<;>omega)
    rw [hn2,z3a (d+1) id false thn h3' (by omega) u hu b,List.map_nil,List.append_nil]
   ·have hr:=rg h4' u hu
    have hn2:=ZT (l:=fuL (d+1) id false thn) (q:=inI u.id b) fun x hx=>NP (by rcases JM _ _ _ _ h3' x hx with h5|h5<;>omega)
    rw [hn2,z3a (d+1) id true els h4' (by omega) u hu b,List.map_nil,List.nil_append]
theorem z3a (d i:Int) (e:Bool) : ∀ (l:List S) {nest m:Int} {n:Nat},ZW nest n l=some m→i≤n → ∀ u∈flL l,∀ b,((fuL d i e l).filter (inI u.id b)).map (fun y=>y.s.id)=(bif b then u.els else u.thn).map S.id
 | [],_,_,_,_,_,u,hu,_=>by rw [flL] at hu;cases hu
 | t::r,nest,m,n,h,hi,u,hu,b=>by
   obtain ⟨_,m1,h1,h2⟩:=XL h
   have hm1:=UR _ _ t h1
   have h2':ZW nest ((n+ZZ t:Nat):Int) r=some m:=by rw [← h2,hm1];rfl
   have rg : ∀ {l:List S} {q:Nat} {nest m:Int},ZW nest q l=some m → ∀ u∈flL l,(q:Int)+1≤u.id∧u.id≤(q:Int)+QY l:=fun {l q nest m} hr u hu=>by
    have h2:u.id∈KH q (QY l):=by
     rw [← UL nest l hr]
     exact List.mem_map.2 ⟨u,hu,rfl⟩
    have:=q2s h2
    omega
   rw [fuL,List.filter_append,List.map_append]
   rw [flL] at hu
   rcases List.mem_append.1 hu with hu|hu
   ·have hr:(n:Int)+1≤u.id∧u.id≤(n:Int)+ZZ t:=by
     have h5:ZW nest n [t]=some m1:=by
      rw [ZW,if_neg (by have:=(XL h).1;omega),h1]
      simp only
      rw [ZW]
     have:=rg h5 u (by rw [flL,flL,List.append_nil];exact hu)
     rw [QY,QY] at this
     omega
    have hn2:=ZT (l:=fuL d i e r) (q:=inI u.id b) fun x hx=>NP (by rcases JM _ _ _ _ h2' x hx with h5|h5<;>omega)
    rw [hn2,w2g d i e t h1 hi u hu b,List.map_nil,List.append_nil]
   ·have hr:=rg h2' u hu
    have hn2:=ZT (l:=fuS d i e t) (q:=inI u.id b) fun x hx=>NP (by rcases z2x _ _ _ _ h1 x hx with h5|h5<;>omega)
    rw [hn2,z3a d i e r h2' (by omega) u hu b,List.map_nil,List.nil_append]
end
theorem x1r : ∀ (pre:List Int) {a:Int} {r:List Int},(pre++a::r).Nodup→nextIn (pre++a::r) a=r.head?
 | [],a,[],_=>rfl
 | [],a,b::r,_=>by show (if a=a then some b else _)=_;rw [if_pos rfl];rfl
 | x::pre,a,r,hn=>by
   have hn':(x::(pre++a::r)).Nodup:=hn
   rw [List.nodup_cons] at hn'
   have hne:x≠a:=fun e=>hn'.1 (e▸List.mem_append.2 (.inr List.mem_cons_self))
   have ih:=x1r pre hn'.2
   show nextIn (x::(pre++a::r)) a=_
   cases hq:pre++a::r with
   | nil=>simp at hq
   | cons y q =>
     rw [hq] at ih
     show (if x=a then some y else nextIn (y::q) a)=_
     rw [if_neg hne,ih]
def w2n (L:List RI) (i nx:Int):Prop:=(i=0∧nx = -1)∨(i≠0∧(itemR L i).s.kind=6∧nx=i)∨(i≠0∧(itemR L i).s.kind≠6∧BehP L i nx)
mutual
theorem w2a {L:List RI} (hN:(L.map fun x=>x.s.id).Nodup) (hK : ∀ x∈L,∀ b,(L.filter (inI x.s.id b)).map (fun y=>y.s.id)=(bif b then x.s.els else x.s.thn).map S.id) (proc d i:Int) (e:Bool) : ∀ (t:S) {nest m:Int} (nx lp:Int) (n:Nat),q4w nest n t=some m→(∀ x∈fuS d i e t,x∈L)→BehP L t.id nx → ∀ it∈itS proc i nx lp n t,BehP L it.s.id it.next
 | .mk id kind labels name pr x has args thn els,nest,m,nx,lp,n,h,hL,hb,it,hi=>by
   obtain ⟨_,hid,m1,h3,h4⟩:=ZH h
   have hid:id=(n:Int)+1:=hid
   have hm1:=ZG _ _ thn h3
   have h3':ZW (nest+1) ((n+1:Nat):Int) thn=some m1:=by rw [← h3];rfl
   have h4':ZW (nest+1) ((n+1+QY thn:Nat):Int) els=some m:=by
    rw [← h4,hm1]
    congr 1
   rw [fuS] at hL
   have hx:=hL _ List.mem_cons_self
   have hit:=z1q hN hx
   have k1:=hK _ hx false
   have k2:=hK _ hx true
   have haft:w2n L id (if kind=6 then (n:Int)+1 else nx):=by
    have hit':itemR L id=⟨.mk id kind labels name pr x has args thn els,d,i,e⟩:=hit
    by_cases hk:kind=6
    ·rw [if_pos hk]
     exact .inr (.inl ⟨by omega,by rw [hit'];exact hk,hid.symm⟩)
    ·rw [if_neg hk]
     exact .inr (.inr ⟨by omega,by rw [hit'];exact hk,hb⟩)
   rw [itS] at hi
   rcases List.mem_cons.1 hi with rfl|hi
   ·exact hb
   rw [← hid] at hi
   rcases List.mem_append.1 hi with hi|hi
   ·exact w0z hN hK proc (d+1) id false thn _ _ (n+1) [] h3' (fun y hy=>hL y (List.mem_cons_of_mem _ (List.mem_append.2 (.inl hy)))) k1 (by rw [hid] at haft ⊢;exact haft) it hi
   ·exact w0z hN hK proc (d+1) id true els _ _ (n+1+QY thn) [] h4' (fun y hy=>hL y (List.mem_cons_of_mem _ (List.mem_append.2 (.inr hy)))) k2 (by rw [hid] at haft ⊢;exact haft) it hi
theorem w0z {L:List RI} (hN:(L.map fun x=>x.s.id).Nodup) (hK : ∀ x∈L,∀ b,(L.filter (inI x.s.id b)).map (fun y=>y.s.id)=(bif b then x.s.els else x.s.thn).map S.id) (proc d i:Int) (e:Bool) : ∀ (l:List S) {nest m:Int} (nx lp:Int) (n:Nat) (pre:List S),ZW nest n l=some m→(∀ x∈fuL d i e l,x∈L)→(L.filter (inI i e)).map (fun y=>y.s.id)=(pre++l).map S.id→w2n L i nx → ∀ it∈itL proc i nx lp n l,BehP L it.s.id it.next
 | [],_,_,_,_,_,_,_,_,_,_,it,hi=>by rw [itL] at hi;cases hi
 | t::r,nest,m,nx,lp,n,pre,h,hL,hR,ha,it,hi=>by
   obtain ⟨_,m1,h1,h2⟩:=XL h
   have hm1:=UR _ _ t h1
   have h2':ZW nest ((n+ZZ t:Nat):Int) r=some m:=by rw [← h2,hm1];rfl
   rw [fuL] at hL
   have hx:(⟨t,d,i,e⟩:RI)∈L:=hL _ (List.mem_append.2 (.inl (by rw [q6p];exact List.mem_cons_self)))
   have hit:itemR L t.id=⟨t,d,i,e⟩:=z1q hN hx
   have hnd:((pre++t::r).map S.id).Nodup:=by
    rw [← hR]
    exact (List.filter_sublist.map _).nodup hN
   have hnx:nextIn (stdR L (itemR L t.id)) t.id=r.head?.map S.id:=by
    unfold stdR
    rw [hit,hR]
    rw [List.map_append,List.map_cons] at hnd ⊢
    rw [x1r _ hnd,List.head?_map]
   have hb:BehP L t.id (if r.isEmpty then nx else n+1+ZZ t):=by
    cases r with
    | nil =>
      show BehP L t.id nx
      rw [List.head?_nil,Option.map_none] at hnx
      have hin:(itemR L t.id).inn=i:=by rw [hit]
      rcases ha with ⟨h5,h6⟩|⟨h5,h6,h7⟩|⟨h5,h6,h7⟩
      ·rw [h6]
       exact .exit hnx (by rw [hin];exact h5)
      ·rw [h7]
       have:=BehP.loop hnx (by rw [hin];exact h5) (by rw [hin];exact h6)
       rwa [hin] at this
      ·exact .up hnx (by rw [hin];exact h5) (by rw [hin];exact h6) (by rw [hin];exact h7)
    | cons u r =>
      rw [if_neg (by simp)]
      refine .next ?_
      rw [hnx]
      obtain ⟨_,m3,h8,_⟩:=XL h2'
      have hu:=(ZH h8).2.1
      show some u.id=_
      rw [hu]
      congr 1
      omega
   rw [itL] at hi
   rcases List.mem_append.1 hi with hi|hi
   ·exact w2a hN hK proc d i e t _ lp n h1 (fun y hy=>hL y (List.mem_append.2 (.inl hy))) hb it hi
   ·exact w0z hN hK proc d i e r nx lp (n+ZZ t) (pre++[t]) h2' (fun y hy=>hL y (List.mem_append.2 (.inr hy))) (by rw [hR,List.append_assoc];rfl) ha it hi
end

def JK:List RI→Int→Int×Bool
 | [],_=>(0,false)
 | x::r,i=>if i=0 then (0,false) else if x.s.id=i then (if x.s.kind=6 then (i,true) else JK r x.inn) else JK r i
def x3g:List RI→Int→Int×Bool
 | [],_=>(0,false)
 | x::r,id=>if x.s.id=id then (if (JK r x.inn).2 then JK r x.inn else x3g r id) else x3g r id
theorem x9o {l:List RI} {n:Nat} (hn:n<l.length) (i:Int):JK (l.take (n+1)).reverse i=if i=0 then (0,false) else if l[n].s.id=i then (if l[n].s.kind=6 then (i,true) else JK (l.take n).reverse l[n].inn) else JK (l.take n).reverse i:=by
 rw [List.take_succ_eq_append_getElem hn,List.reverse_append]
 show JK (l[n]::(l.take n).reverse) i=_
 rw [JK]
theorem x1s {l:List RI} {n:Nat} (hn:n<l.length) (i:Int):x3g (l.take (n+1)).reverse i=if l[n].s.id=i then (if (JK (l.take n).reverse l[n].inn).2 then JK (l.take n).reverse l[n].inn else x3g (l.take n).reverse i) else x3g (l.take n).reverse i:=by
 rw [List.take_succ_eq_append_getElem hn,List.reverse_append]
 show x3g (l[n]::(l.take n).reverse) i=_
 rw [x3g]
theorem x7t : ∀ (l:List RI),JK l 0=(0,false)
 | []=>rfl
 | x::r=>by rw [JK,if_pos rfl]
theorem q7p : ∀ (l r:List RI) {i:Int},i≠0→(∀ x∈l,x.s.id≠i)→JK (l++r) i=JK r i
 | [],_,_,_,_=>rfl
 | x::l,r,i,h0,h=>by rw [List.cons_append,JK,if_neg h0,if_neg (h x List.mem_cons_self),q7p l r h0 fun y hy=>h y (List.mem_cons_of_mem _ hy)]
mutual
theorem w3x (proc d i:Int) (e:Bool) : ∀ (t:S) {nest m:Int} (nx lp:Int) (n:Nat),q4w nest n t=some m→(itS proc i nx lp n t).map (fun it=>(it.s,it.up))=(fuS d i e t).map fun x=>(x.s,x.inn)
 | .mk id kind labels name pr x has args thn els,nest,m,nx,lp,n,h=>by
   obtain ⟨_,hid,m1,h3,h4⟩:=ZH h
   have hid:id=(n:Int)+1:=hid
   have hm1:=ZG _ _ thn h3
   have h3':ZW (nest+1) ((n+1:Nat):Int) thn=some m1:=by rw [← h3];rfl
   have h4':ZW (nest+1) ((n+1+QY thn:Nat):Int) els=some m:=by
    rw [← h4,hm1]
    congr 1
   rw [itS,fuS,List.map_cons,List.map_cons,List.map_append,List.map_append,← hid,z9d proc (d+1) id false thn _ _ _ h3',z9d proc (d+1) id true els _ _ _ h4']
theorem z9d (proc d i:Int) (e:Bool) : ∀ (l:List S) {nest m:Int} (nx lp:Int) (n:Nat),ZW nest n l=some m→(itL proc i nx lp n l).map (fun it=>(it.s,it.up))=(fuL d i e l).map fun x=>(x.s,x.inn)
 | [],_,_,_,_,_,_=>by rw [itL,fuL];rfl
 | t::r,nest,m,nx,lp,n,h=>by
   obtain ⟨_,m1,h1,h2⟩:=XL h
   have hm1:=UR _ _ t h1
   have h2':ZW nest ((n+ZZ t:Nat):Int) r=some m:=by rw [← h2,hm1];rfl
   rw [itL,fuL,List.map_append,List.map_append,w3x proc d i e t _ _ _ h1,z9d proc d i e r _ _ _ h2']
end

mutual
theorem lpS (proc:Int) : ∀ (t:S) {nest m:Int} (up nx lp:Int) (n:Nat),q4w nest n t=some m → ∀ it∈itS proc up nx lp n t,(it.up=up∧it.loop=lp) ∨ ∃ iu∈itS proc up nx lp n t,iu.s.id=it.up∧iu.s.id<it.s.id∧it.loop=if iu.s.kind=6 then iu.s.id else iu.loop
 | .mk id kind labels name pr x has args thn els,nest,m,up,nx,lp,n,h,it,hi=>by
   obtain ⟨_,hid,m1,h3,h4⟩:=ZH h
   have hid:id=(n:Int)+1:=hid
   have hm1:=ZG _ _ thn h3
   have h3':ZW (nest+1) ((n+1:Nat):Int) thn=some m1:=by rw [← h3];rfl
   have h4':ZW (nest+1) ((n+1+QY thn:Nat):Int) els=some m:=by
    rw [← h4,hm1]
    congr 1
   rw [itS] at hi ⊢
   rcases List.mem_cons.1 hi with rfl|hi
   ·exact .inl ⟨rfl,rfl⟩
   rcases List.mem_append.1 hi with hi|hi
   ·have hr:=z1y h3' hi
    rcases lpL proc thn _ _ _ (n+1) h3' it hi with ⟨h5,h6⟩|⟨iu,h5,h6⟩
    ·refine .inr ⟨_,List.mem_cons_self,?_,?_,?_⟩
     ·rw [h5];exact hid
     ·show id<_
      omega
     ·rw [h6]
      show (if kind=6 then (n:Int)+1 else lp)=if kind=6 then id else lp
      rw [hid]
    ·exact .inr ⟨iu,List.mem_cons_of_mem _ (List.mem_append.2 (.inl h5)),h6⟩
   ·have hr:=z1y h4' hi
    rcases lpL proc els _ _ _ (n+1+QY thn) h4' it hi with ⟨h5,h6⟩|⟨iu,h5,h6⟩
    ·refine .inr ⟨_,List.mem_cons_self,?_,?_,?_⟩
     ·rw [h5];exact hid
     ·show id<_
      omega
     ·rw [h6]
      show (if kind=6 then (n:Int)+1 else lp)=if kind=6 then id else lp
      rw [hid]
    ·exact .inr ⟨iu,List.mem_cons_of_mem _ (List.mem_append.2 (.inr h5)),h6⟩
theorem lpL (proc:Int) : ∀ (l:List S) {nest m:Int} (up nx lp:Int) (n:Nat),ZW nest n l=some m → ∀ it∈itL proc up nx lp n l,(it.up=up∧it.loop=lp) ∨ ∃ iu∈itL proc up nx lp n l,iu.s.id=it.up∧iu.s.id<it.s.id∧it.loop=if iu.s.kind=6 then iu.s.id else iu.loop
 | [],nest,m,up,nx,lp,n,h,it,hi=>by rw [itL] at hi;cases hi
 | t::r,nest,m,up,nx,lp,n,h,it,hi=>by
   obtain ⟨_,m1,h1,h2⟩:=XL h
   have hm1:=UR _ _ t h1
   have h2':ZW nest ((n+ZZ t:Nat):Int) r=some m:=by rw [← h2,hm1];rfl
   rw [itL] at hi ⊢
   rcases List.mem_append.1 hi with hi|hi
   ·rcases lpS proc t up _ lp n h1 it hi with h5|⟨iu,h5,h6⟩
    ·exact .inl h5
    ·exact .inr ⟨iu,List.mem_append.2 (.inl h5),h6⟩
   ·rcases lpL proc r up nx lp (n+ZZ t) h2' it hi with h5|⟨iu,h5,h6⟩
    ·exact .inl h5
    ·exact .inr ⟨iu,List.mem_append.2 (.inr h5),h6⟩
end
section
variable {p:Pg} {j:Nat} {f:Pr}
theorem x6h (h:WM p=true) (hj:p.procs[j]? = some f):(flatU f).map (fun x=>x.s.id)=KH (QT p.procs j) (QY f.body):=by
 obtain ⟨m,hr⟩:=q0o h hj
 rw [← UL 1 f.body hr]
 have:=HG 1 0 false f.body
 rw [← this,List.map_map]
 rfl
theorem x9e (h:WM p=true) (hj:p.procs[j]? = some f):((flatU f).map fun x=>x.s.id).Nodup:=by
 rw [x6h h hj]
 exact q0x _ _
theorem q9z {t:S} (ht:t∈flL f.body) : ∃ x∈flatU f,x.s=t:=by
 rw [← show (flatU f).map RI.s=flL f.body from HG 1 0 false f.body] at ht
 exact List.mem_map.1 ht
theorem x1h (h:WM p=true) (hj:p.procs[j]? = some f) : ∀ x∈flatU f,∀ b,((flatU f).filter (inI x.s.id b)).map (fun y=>y.s.id)=(bif b then x.s.els else x.s.thn).map S.id:=fun x hx b=>by
 obtain ⟨m,hr⟩:=q0o h hj
 refine z3a 1 0 false f.body hr (by omega) x.s ?_ b
 rw [← HG 1 0 false f.body]
 exact List.mem_map.2 ⟨x,hx,rfl⟩
theorem q6n (h:WM p=true) (hj:p.procs[j]? = some f):((flatU f).filter (inI 0 false)).map (fun y=>y.s.id)=f.body.map S.id:=by
 obtain ⟨m,hr⟩:=q0o h hj
 exact z4t 1 0 false f.body hr (by omega)
theorem x0h (h:WM p=true) (hj:p.procs[j]? = some f) {it:Item} (hi:it∈QS p j f):BehP (flatU f) it.s.id it.next:=by
 obtain ⟨m,hr⟩:=q0o h hj
 exact w0z (x9e h hj) (x1h h hj) (j:Nat) 1 0 false f.body (-1) 0 (QT p.procs j) [] hr (fun x hx=>hx) (by rw [q6n h hj];rfl) (.inl ⟨rfl,rfl⟩) it hi
theorem x0c {l:List RI} {q:RI→Bool}:((l.find? q).map fun y=>y.s.id)=((l.filter q).map fun y=>y.s.id).head? := by
 rw [List.head?_map,List.head?_filter]
theorem q8q (l:List S) (o:Int):((l.map S.id).head?).getD o=q6y l o:=by
 cases l<;>rfl
theorem q0t (h:WM p=true) (hj:p.procs[j]? = some f) {t:S} (ht:t∈flL f.body) (b:Bool) (o:Int):z7c (flatU f) t.id b o=q6y (bif b then t.els else t.thn) o:=by
 obtain ⟨x,hx,rfl⟩:=q9z ht
 unfold z7c
 rw [x0c,x1h h hj x hx b,q8q]
theorem x3e (h:WM p=true) (hj:p.procs[j]? = some f) (o:Int):z7c (flatU f) 0 false o=q6y f.body o:=by
 unfold z7c
 rw [x0c,q6n h hj,q8q]
theorem q5f (h:WM p=true) (hj:p.procs[j]? = some f) {it:Item} (hi:it∈QS p j f):x3g (flatU f).reverse it.s.id=(it.loop,decide (it.loop≠0)):=by
 obtain ⟨m,hr⟩:=q0o h hj
 have hpar:=z9d (j:Nat) 1 0 false f.body (-1) 0 (QT p.procs j) hr
 have hids:=x6h h hj
 have hlp:=fun it hi=>lpL (j:Nat) f.body 0 (-1) 0 (QT p.procs j) hr it hi
 have hib:=fun it (hi:it∈QS p j f)=>PF h hj (q9i hi)
 have hinj:=fun a (ha:a∈QS p j f) b (hb:b∈QS p j f) he=>z9s h hj ha hb he
 have e1:itL (j:Nat) 0 (-1) 0 (QT p.procs j) f.body=QS p j f:=rfl
 have e2:fuL 1 0 false f.body=flatU f:=rfl
 rw [e1] at hpar hlp
 rw [e2] at hpar
 have hlen:(QS p j f).length=(flatU f).length:=by simpa using congrArg List.length hpar
 have at_ : ∀ (k:Nat) (hk:k<(flatU f).length),((QS p j f)[k]'(by omega)).s=(flatU f)[k].s∧((QS p j f)[k]'(by omega)).up=(flatU f)[k].inn:=fun k hk=>by
  have h1:=congrArg (fun l=>l[k]?) hpar
  simp only [List.getElem?_map,List.getElem?_eq_getElem hk,List.getElem?_eq_getElem (show k<(QS p j f).length by omega),Option.map_some] at h1
  have h2:=Option.some.inj h1
  exact ⟨congrArg Prod.fst h2,congrArg Prod.snd h2⟩
 have idk : ∀ (k:Nat) (hk:k<(flatU f).length),(flatU f)[k].s.id=(QT p.procs j:Int)+1+k:=fun k hk=>by
  have h1:=congrArg (fun l=>l[k]?) hids
  have hk2:k<QY f.body:=by have:=JR 1 0 false f.body;rw [e2] at this;omega
  unfold KH at h1
  simp only [List.getElem?_map,List.getElem?_eq_getElem hk,Option.map_some,List.getElem?_range' hk2] at h1
  have:=Option.some.inj h1
  omega
 have key : ∀ (k:Nat) (hk:k<(flatU f).length),JK ((flatU f).take k).reverse (flatU f)[k].inn=(((QS p j f)[k]'(by omega)).loop,decide (((QS p j f)[k]'(by omega)).loop≠0)):=fun k=>by
  induction k using Nat.strongRecOn with
  | _ k ih =>
    intro hk
    obtain ⟨a1,a2⟩:=at_ k hk
    have hki:=idk k hk
    rcases hlp _ (List.getElem_mem (show k<(QS p j f).length by omega)) with ⟨h5,h6⟩|⟨iu,h5,h6,h7,h8⟩
    ·rw [← a2,h5,h6,x7t]
     rfl
    ·obtain ⟨q,hq,rfl⟩:=List.mem_iff_getElem.1 h5
     obtain ⟨b1,b2⟩:=at_ q (by omega)
     have hqi:=idk q (by omega)
     rw [a1] at h7
     rw [b1] at h6 h7
     have hqk:q<k:=by omega
     have htk:(flatU f).take k=(flatU f).take q++(flatU f)[q]::((flatU f).take k).drop (q+1):=by
      have h9:((flatU f).take k).take q++((flatU f).take k).drop q=(flatU f).take k:=List.take_append_drop q _
      rw [List.take_take,Nat.min_eq_left (by omega),List.drop_eq_getElem_cons (by rw [List.length_take];omega),List.getElem_take] at h9
      exact h9.symm
     have hi0:(flatU f)[k].inn≠0:=by rw [← a2,← h6];omega
     have hrev:((flatU f).take k).reverse=(((flatU f).take k).drop (q+1)).reverse++(flatU f)[q]::((flatU f).take q).reverse:=by
      rw [htk]
      have:((flatU f).take q++(flatU f)[q]::((flatU f).take k).drop (q+1)).drop (q+1)=((flatU f).take k).drop (q+1):=by rw [← htk]
      rw [this,List.reverse_append,List.reverse_cons,List.append_assoc]
      rfl
     rw [hrev,q7p _ _ hi0 (fun x hx=>by
      obtain ⟨z,hz,rfl⟩:=List.mem_iff_getElem.1 (List.mem_reverse.1 hx)
      rw [List.length_drop,List.length_take] at hz
      rw [List.getElem_drop,List.getElem_take,idk _ (by omega),← a2,← h6]
      omega)]
     rw [JK,if_neg hi0,if_pos (by rw [← a2,← h6])]
     rw [h8,b1]
     split
     ·rename_i hk6
      rw [← a2,← h6,decide_eq_true (by omega)]
     ·exact ih q hqk (by omega)
 obtain ⟨k,hk,rfl⟩:=List.mem_iff_getElem.1 hi
 have hkU:k<(flatU f).length:=by omega
 obtain ⟨a1,a2⟩:=at_ k hkU
 have scan : ∀ (n:Nat),n≤(flatU f).length→x3g ((flatU f).take n).reverse (flatU f)[k].s.id=if k<n then (((QS p j f)[k]'(by omega)).loop,decide (((QS p j f)[k]'(by omega)).loop≠0)) else (0,false):=fun n=>by
  induction n with
  | zero=>intro _;rfl
  | succ n ih =>
    intro hn
    rw [x1s (show n<(flatU f).length by omega),ih (by omega)]
    have hki:=idk k hkU
    have hni:=idk n (by omega)
    by_cases he:n=k
    ·subst he
     rw [if_pos rfl,key n hkU,if_neg (Nat.lt_irrefl n),if_pos (Nat.lt_succ_self n)]
     by_cases h0:((QS p j f)[n]'(by omega)).loop=0
     ·rw [h0]
      rfl
     ·rw [decide_eq_true h0,if_pos rfl]
    ·rw [if_neg (show ¬(flatU f)[n].s.id=(flatU f)[k].s.id by omega)]
     by_cases hlt:k<n
     ·rw [if_pos hlt,if_pos (show k<n+1 by omega)]
     ·rw [if_neg hlt,if_neg (show ¬k<n+1 by omega)]
 have:=scan (flatU f).length (Nat.le_refl _)
 rw [List.take_length,if_pos hkU] at this
 rw [a1]
 exact this
end
open Go.Proofs
theorem q9y {α:Type} {R:α→α→Prop} (irr : ∀ a,¬R a a) (tr : ∀ a b c,R a b→R b c→R a c) : ∀ {l m:List α},l.Pairwise R→m.Pairwise R→(∀ s,s∈l↔s∈m)→l=m
 | [],[],_,_,_=>rfl
 | [],b::m,_,_,h=>by have:=(h b).2 List.mem_cons_self;cases this
 | a::l,[],_,_,h=>by have:=(h a).1 List.mem_cons_self;cases this
 | a::l,b::m,hl,hm,h=>by
   rw [List.pairwise_cons] at hl hm
   have hab:a=b:=by
    rcases List.mem_cons.1 ((h a).1 List.mem_cons_self) with h1|h1
    ·exact h1
    rcases List.mem_cons.1 ((h b).2 List.mem_cons_self) with h2|h2
    ·exact h2.symm
    exact absurd (tr _ _ _ (hl.1 b h2) (hm.1 a h1)) (irr a)
   subst hab
   rw [q9y irr tr hl.2 hm.2 fun s => ?_]
   constructor
   ·intro hs
    rcases List.mem_cons.1 ((h s).1 (List.mem_cons_of_mem _ hs)) with rfl|h1
    ·exact absurd (hl.1 s hs) (irr s)
    ·exact h1
   ·intro hs
    rcases List.mem_cons.1 ((h s).2 (List.mem_cons_of_mem _ hs)) with rfl|h1
    ·exact absurd (hm.1 s hs) (irr s)
    ·exact h1
theorem x6b : ∀ (x y:List UInt8),Op.bytesLess x y=decide (x<y)
 | [],[]=>by simp [Op.bytesLess]
 | _::_,[]=>by simp [Op.bytesLess]
 | [],_::_=>by simp [Op.bytesLess]
 | a::x,b::y=>by
   rw [Op.bytesLess,x6b x y]
   simp only [List.cons_lt_cons_iff]
   by_cases h1:a<b<;>by_cases h2:a=b<;>by_cases h3:x<y<;>simp [h1,h2,h3]
def ltT (a b:Str):Prop:=Op.bytesLess a b=true
theorem HT {a b:Str}:ltT a b↔a<b:=by
 unfold ltT
 rw [x6b,decide_eq_true_eq]
theorem ltT.irr (a:Str) : ¬ltT a a:=fun h=>List.lt_irrefl a (HT.1 h)
theorem ltT.trans (a b c:Str) (h1:ltT a b) (h2:ltT b c):ltT a c:=HT.2 (List.lt_trans (HT.1 h1) (HT.1 h2))
theorem ltT.total {a b:Str} (h:a≠b):ltT a b∨ltT b a:=by
 by_cases h1:a<b
 ·exact .inl (HT.2 h1)
 ·rcases List.le_iff_lt_or_eq.1 (List.not_lt.1 h1) with h2|h2
  ·exact .inr (HT.2 h2)
  ·exact absurd h2.symm h
theorem x5t (l:List Str):(VB l).Pairwise fun a b=>a≤b:=by
 have:=List.pairwise_mergeSort (le:=fun x y:Str=>decide (x≤y)) (fun a b c h1 h2=>by
  rw [decide_eq_true_eq] at h1 h2 ⊢
  exact List.le_trans h1 h2) (fun a b=>by
  rcases List.le_total a b with h|h
  ·rw [decide_eq_true h];rfl
  ·rw [decide_eq_true h];exact Bool.or_true _) l
 exact this.imp fun h=>by simpa using h
theorem x2q {l:List Str} (h:l.Pairwise fun a b=>a≤b):(Go.Lib.compact l).Pairwise ltT:=by
 unfold Go.Lib.compact Go.Lib.compactUpTo
 rw [List.pairwise_map]
 refine (List.Pairwise.filter _ (List.pairwise_lt_range (n:=l.length))).imp_of_mem fun {i k} hi hk hlt => ?_
 obtain ⟨hi1,_⟩:=List.mem_filter.1 hi
 obtain ⟨hk1,hk2⟩:=List.mem_filter.1 hk
 rw [List.mem_range] at hi1 hk1
 have le : ∀ (a b:Nat) (_:a≤b) (hb:b<l.length),l[a]'(by omega)≤l[b]:=fun a b hab hb=>by
  rcases Nat.lt_or_ge a b with h1|h1
  ·exact List.pairwise_iff_getElem.1 h a b (by omega) hb h1
  ·obtain rfl:a=b:=by omega
   exact List.le_refl _
 have g : ∀ (a:Nat) (ha:a<l.length),l.toArray[a]! = l[a]:=fun a ha=>by simp [ha]
 rw [g i hi1,g k hk1]
 unfold Go.Lib.keeps at hk2
 rw [decide_eq_true_eq,g k hk1,g (k-1) (by omega)] at hk2
 have hne:l[k]≠l[k-1]'(by omega):=by
  rcases hk2 with h0|h0
  ·omega
  ·exact h0
 have h1:=le i (k-1) (by omega) (by omega)
 have h2:=le (k-1) k (by omega) hk1
 rcases List.le_iff_lt_or_eq.1 h2 with h3|h3
 ·exact HT.2 (List.lt_of_le_of_lt h1 h3)
 ·exact absurd h3.symm hne
def q3c (l:List Str):List Str:=Go.Lib.compact (VB l)
theorem z0r {l:List Str} {s:Str}:s∈q3c l↔s∈l:=by unfold q3c;rw [q3n,NL]
theorem x9n (l:List Str):(q3c l).Pairwise ltT:=x2q (x5t l)
theorem x7q {l m:List Str} (h:m.Pairwise ltT) (hm : ∀ s,s∈m↔s∈l):m=q3c l:=q9y ltT.irr ltT.trans h (x9n l) fun s=>by rw [hm,z0r]
theorem q4g {l:List Str} (h:l.Nodup):VB l=q3c l:=by
 refine x7q ?_ fun s=>NL
 have hn:(VB l).Nodup:=by
  unfold VB
  exact (List.mergeSort_perm l _).nodup_iff.2 h
 refine (List.pairwise_and_iff.2 ⟨x5t l,hn⟩).imp fun ⟨h1,h2⟩ => ?_
 rcases List.le_iff_lt_or_eq.1 h1 with h3|h3
 ·exact HT.2 h3
 ·exact absurd h3 h2
open Go.Proofs
structure RiseI {α:Type} (R:α→α→Prop) (l out:List α) (i:Nat):Prop where
 rise:out.Pairwise R
 sub : ∀ s∈out,s∈l
 seg : ∀ s∈l,s∉out → ∀ o∈out,R o s
 cnt:(∀ s∈l,s∈out)∨out.length=i
def LeastI {α:Type} (R:α→α→Prop) (l out:List α) (k:Nat):Option α→Prop
 | none => ∀ s∈l.take k,s∈out
 | some m=>m∈l∧m∉out ∧ ∀ s∈l.take k,s∉out→s=m∨R m s
section
variable {α:Type} {R:α→α→Prop} {l out:List α} {i k:Nat}
theorem RiseI.zero:RiseI R l [] 0:=⟨.nil,fun _ h=>(by cases h),fun _ _ _ _ h=>(by cases h),.inr rfl⟩
theorem LeastI.zero:LeastI R l out 0 none:=fun s h=>by rw [List.take_zero] at h;cases h
theorem QI {s:α} (hk:k<l.length):s∈l.take (k+1)↔s∈l.take k∨s=l[k]:=by
 rw [List.take_succ_eq_append_getElem hk,List.mem_append,List.mem_singleton]
theorem LeastI.old (hk:k<l.length) {o:Option α} (h:LeastI R l out k o) (hx:l[k]∈out):LeastI R l out (k+1) o:=by
 cases o with
 | none =>
   intro s hs
   rcases (QI hk).1 hs with h1|rfl
   ·exact h s h1
   ·exact hx
 | some m =>
   refine ⟨h.1,h.2.1,fun s hs hn => ?_⟩
   rcases (QI hk).1 hs with h1|rfl
   ·exact h.2.2 s h1 hn
   ·exact absurd hx hn
theorem LeastI.first (hk:k<l.length) (h:LeastI R l out k none) (hx:l[k]∉out):LeastI R l out (k+1) (some l[k]):=by
 refine ⟨List.getElem_mem hk,hx,fun s hs hn => ?_⟩
 rcases (QI hk).1 hs with h1|rfl
 ·exact absurd (h s h1) hn
 ·exact .inl rfl
theorem LeastI.less (tr : ∀ a b c,R a b→R b c→R a c) (hk:k<l.length) {m:α} (h:LeastI R l out k (some m)) (hx:l[k]∉out) (hR:R l[k] m):LeastI R l out (k+1) (some l[k]):=by
 refine ⟨List.getElem_mem hk,hx,fun s hs hn => ?_⟩
 rcases (QI hk).1 hs with h1|rfl
 ·rcases h.2.2 s h1 hn with rfl|h2
  ·exact .inr hR
  ·exact .inr (tr _ _ _ hR h2)
 ·exact .inl rfl
theorem LeastI.more (tot : ∀ a b,a≠b→R a b∨R b a) (hk:k<l.length) {m:α} (h:LeastI R l out k (some m)) (hR : ¬R l[k] m):LeastI R l out (k+1) (some m):=by
 refine ⟨h.1,h.2.1,fun s hs hn => ?_⟩
 rcases (QI hk).1 hs with h1|rfl
 ·exact h.2.2 s h1 hn
 ·by_cases he:l[k]=m
  ·exact .inl he
  ·exact .inr ((tot _ _ he).resolve_left hR)
theorem RiseI.stay (h:RiseI R l out i) (hl:LeastI R l out l.length none):RiseI R l out (i+1):=by
 rw [LeastI,List.take_length] at hl
 exact ⟨h.rise,h.sub,h.seg,.inl hl⟩
theorem RiseI.snoc (h:RiseI R l out i) {m:α} (hl:LeastI R l out l.length (some m)):RiseI R l (out++[m]) (i+1):=by
 obtain ⟨h1,h2,h3⟩:=hl
 rw [List.take_length] at h3
 refine ⟨?_,fun s hs => ?_,fun s hs hn o ho => ?_,?_⟩
 ·rw [List.pairwise_append]
  exact ⟨h.rise,List.pairwise_singleton _ _,fun a ha b hb=>by rw [List.mem_singleton.1 hb];exact h.seg m h1 h2 a ha⟩
 ·rcases List.mem_append.1 hs with h4|h4
  ·exact h.sub s h4
  ·rw [List.mem_singleton.1 h4];exact h1
 ·rw [List.mem_append,not_or,List.mem_singleton] at hn
  rcases List.mem_append.1 ho with h4|h4
  ·exact h.seg s hs hn.1 o h4
  ·rw [List.mem_singleton.1 h4]
   exact (h3 s hs hn.1).resolve_left hn.2
 ·rcases h.cnt with h4|h4
  ·exact absurd (h4 m h1) h2
  ·exact .inr (by rw [List.length_append,h4];rfl)
theorem RiseI.nodup (irr : ∀ a,¬R a a) (h:RiseI R l out i):out.Nodup:=by
 unfold List.Nodup
 refine h.rise.imp fun {a b} hR e => ?_
 subst e
 exact irr _ hR
theorem RiseI.all [DecidableEq α] (irr : ∀ a,¬R a a) (h:RiseI R l out i) (hi:i=l.length):out.Pairwise R ∧ ∀ s,s∈out↔s∈l:=by
 refine ⟨h.rise,fun s=>⟨h.sub s,fun hs => ?_⟩⟩
 rcases h.cnt with h4|h4
 ·exact h4 s hs
 ·refine Classical.byContradiction fun hn => ?_
  have hnd:(s::out).Nodup:=List.nodup_cons.2 ⟨hn,h.nodup irr⟩
  have:=YG hnd (m:=l) fun x hx=>by
   rcases List.mem_cons.1 hx with rfl|hx
   ·exact hs
   ·exact h.sub x hx
  rw [List.length_cons] at this
  omega
theorem RiseI.len [DecidableEq α] (irr : ∀ a,¬R a a) (h:RiseI R l out i):out.length≤l.length:=YG (h.nodup irr) h.sub
end
def ordP (a b:Int):Prop:=z4b a b=true
theorem DW {a b:Int}:ordP a b↔(b = -1∧a ≠ -1)∨(a ≠ -1∧b ≠ -1∧a<b):=by
 unfold ordP z4b
 by_cases ha:a = -1<;>by_cases hb:b = -1<;>simp [ha,hb]
theorem ordP.irr (a:Int) : ¬ordP a a:=fun h=>by rw [DW] at h;omega
theorem ordP.trans (a b c:Int) (h1:ordP a b) (h2:ordP b c):ordP a c:=by rw [DW] at *;omega
theorem ordP.total (a b:Int) (h:a≠b):ordP a b∨ordP b a:=by rw [DW,DW];omega
theorem z7s {l m:List Int} (h1:l.Pairwise ordP) (h2:m.Pairwise ordP) (h : ∀ s,s∈l↔s∈m):l=m:=q9y ordP.irr ordP.trans h1 h2 h
open Go.Proofs
theorem BN (l:List Str) (x:Str):inS l x=l.any fun s=>x==s:=by
 unfold inS
 congr 1
 funext s
 exact Bool.beq_comm
theorem ZF {l:List Str}:XZ l=false↔l.Nodup:=by
 refine ⟨x7m,fun h => ?_⟩
 unfold XZ
 rw [List.any_eq_false]
 intro i hi
 rw [List.mem_range] at hi
 rw [Bool.not_eq_true,List.any_eq_false]
 intro s hs he
 rw [List.getElem?_eq_getElem hi] at he
 have he:l[i]=s:=eq_of_beq he
 obtain ⟨k,hk,rfl⟩:=List.mem_iff_getElem.1 hs
 rw [List.length_take] at hk
 rw [List.getElem_take] at he
 have:=(List.getElem_inj h).1 he
 omega
theorem NV : ∀ (l seen:List Str),seen.Nodup→((VX seen l).isSome=true↔(seen++l).Nodup)
 | [],seen,h=>by rw [VX,List.append_nil];exact ⟨fun _=>h,fun _=>rfl⟩
 | n::r,seen,h=>by
   rw [VX]
   cases hc:(seen.any fun s=>n==s) with
   | true =>
     rw [cond_true]
     obtain ⟨s,hs,he⟩:=List.any_eq_true.1 hc
     have he:n=s:=eq_of_beq he
     refine ⟨fun h=>by (cases h),fun h2 => ?_⟩
     rw [List.nodup_append] at h2
     exact absurd rfl (h2.2.2 s hs n List.mem_cons_self |> fun hh=>he▸hh)
   | false =>
     rw [cond_false]
     have hn:n∉seen:=fun hm=>by
      have:=List.any_eq_false.1 hc n hm
      simp at this
     have h1:(seen++[n]).Nodup:=by
      rw [List.nodup_append]
      exact ⟨h,by simp,fun a ha b hb e=>hn (by rw [← List.mem_singleton.1 hb,← e];exact ha)⟩
     rw [NV r (seen++[n]) h1,List.append_assoc]
     rfl
theorem x2x (f:Pr) : ∀ (its:List Item) (seen:List Str),seen.Nodup→((∃ s,UK f its seen = .ok s)↔(∀ it∈its,WB f it=true)∧(seen++its.flatMap fun it=>it.s.labels).Nodup)
 | [],seen,h=>by
   rw [UK]
   refine ⟨fun _=>⟨fun _ hh=>(by cases hh),by simpa using h⟩,fun _=>⟨seen,rfl⟩⟩
 | it::r,seen,h=>by
   have hj:=NV it.s.labels seen h
   rw [UK]
   cases hq:VX seen it.s.labels with
   | none =>
     rw [hq] at hj
     refine ⟨fun ⟨s,hs⟩=>by (cases hs),fun ⟨_,h2⟩ => ?_⟩
     have:(seen++it.s.labels).Nodup:=by
      rw [List.flatMap_cons,← List.append_assoc] at h2
      exact (List.nodup_append.1 h2).1
     have:=hj.2 this
     cases this
   | some s =>
     obtain rfl:=NC hq
     rw [hq] at hj
     have hn:=hj.1 rfl
     simp only
     cases hl:WB f it with
     | false =>
       rw [cond_false]
       refine ⟨fun ⟨s,hs⟩=>by (cases hs),fun ⟨h1,_⟩ => ?_⟩
       have:=h1 it List.mem_cons_self
       rw [hl] at this
       cases this
     | true =>
       rw [cond_true,x2x f r _ hn,List.flatMap_cons,List.append_assoc]
       constructor
       ·rintro ⟨h1,h2⟩
        refine ⟨fun x hx => ?_,h2⟩
        rcases List.mem_cons.1 hx with rfl|hx
        ·exact hl
        ·exact h1 x hx
       ·rintro ⟨h1,h2⟩
        exact ⟨fun x hx=>h1 x (List.mem_cons_of_mem _ hx),h2⟩
theorem q6b (f:Pr) : ∀ (its:List Item) (seen s:List Str),UK f its seen = .ok s→s=seen++its.flatMap fun it=>it.s.labels
 | [],seen,s,h=>by rw [UK] at h;cases h;simp
 | it::r,seen,s,h=>by
   rw [UK] at h
   cases hq:VX seen it.s.labels with
   | none=>rw [hq] at h;cases h
   | some s2 =>
     obtain rfl:=NC hq
     rw [hq] at h
     simp only at h
     cases hl:WB f it with
     | false=>rw [hl] at h;cases h
     | true =>
       rw [hl,cond_true] at h
       rw [q6b f r _ s h,List.flatMap_cons,List.append_assoc]
def q4y (f:Pr):List Str:=(flL f.body).flatMap S.labels++f.fin
def GN (p:Pg) (j:Nat) (f:Pr):Prop:=(∀ it∈QS p j f,WB f it=true)∧(q4y f).Nodup
theorem q6l (p:Pg) (j:Nat) (f:Pr):((QS p j f).flatMap fun it=>it.s.labels)=(flL f.body).flatMap S.labels:=by
 unfold QS
 rw [← ND (j:Nat) 0 (-1) 0 (QT p.procs j) f.body,List.flatMap_map]
theorem q7r {p:Pg} {j:Nat} {f:Pr} (hj:p.procs[j]? = some f):UX p j=none↔GN p j f:=by
 unfold UX GN q4y
 rw [hj]
 simp only
 have h1:=x2x f (QS p j f) [] List.nodup_nil
 rw [List.nil_append,q6l] at h1
 have h0:UK f (itL (j:Nat) 0 (-1) 0 (QT p.procs j) f.body) []=UK f (QS p j f) []:=rfl
 rw [h0]
 cases hq:UK f (QS p j f) [] with
 | error id =>
   rw [hq] at h1
   refine ⟨fun h=>by (cases h),fun ⟨h2,h3⟩ => ?_⟩
   obtain ⟨s,hs⟩:=h1.2 ⟨h2,(List.nodup_append.1 h3).1⟩
   cases hs
 | ok seen =>
   rw [hq] at h1
   have hs:=q6b f _ _ _ hq
   rw [List.nil_append,q6l] at hs
   obtain ⟨h2,h3⟩:=h1.1 ⟨seen,rfl⟩
   have hJ:=NV f.fin seen (by rw [hs];exact h3)
   simp only
   rw [← hs]
   cases hq2:VX seen f.fin with
   | none =>
     rw [hq2] at hJ
     refine ⟨fun h=>by (cases h),fun ⟨_,h4⟩ => ?_⟩
     have:=hJ.2 h4
     cases this
   | some s =>
     rw [hq2] at hJ
     exact ⟨fun _=>⟨h2,hJ.1 rfl⟩,fun _=>rfl⟩
theorem z5n {p:Pg} (hs:(QR p).1=0):(BG p).1=0 ↔ ∀ j f,p.procs[j]? = some f→GN p j f:=by
 unfold BG
 rw [if_neg (by omega)]
 cases hf:(List.range p.procs.length).findSome? (UX p) with
 | some a =>
   refine ⟨fun h=>by simp at h,fun h => ?_⟩
   obtain ⟨j,hj,hq⟩:=List.exists_of_findSome?_eq_some hf
   rw [List.mem_range] at hj
   have:=(q7r (List.getElem?_eq_getElem hj)).2 (h j _ (List.getElem?_eq_getElem hj))
   rw [this] at hq
   cases hq
 | none =>
   refine ⟨fun _ j f hj => ?_,fun _=>rfl⟩
   have hlt:j<p.procs.length:=(List.getElem?_eq_some_iff.1 hj).1
   exact (q7r hj).1 (List.findSome?_eq_none_iff.1 hf j (List.mem_range.2 hlt))
def allV (p:Pg) (f:Pr):List Str:=p.globals++x1g f
structure ScopeOK (p:Pg) (f:Pr):Prop where
 nd:(allV p f).Nodup
 kn : ∀ t∈flL f.body,knownB p f (procsN p) t=true
theorem q4p {p:Pg} {f:Pr} (hg:XZ p.globals=false):WV p f=none↔ScopeOK p f:=by
 unfold WV
 have h1:(XZ (x1g f)||(x1g f).any (fun n=>p.globals.any fun s=>n==s))=false↔(allV p f).Nodup:=by
  unfold allV
  rw [Bool.or_eq_false_iff,ZF,List.nodup_append,List.any_eq_false]
  have hgn:=ZF.1 hg
  constructor
  ·rintro ⟨a,b⟩
   refine ⟨hgn,a,fun x hx y hy e=>b y hy ?_⟩
   rw [List.any_eq_true]
   exact ⟨x,hx,by rw [e];exact beq_self_eq_true _⟩
  ·rintro ⟨_,a,b⟩
   refine ⟨a,fun y hy hh => ?_⟩
   obtain ⟨x,hx,he⟩:=List.any_eq_true.1 hh
   exact b x hx y hy (eq_of_beq he).symm
 cases hc:(XZ (x1g f)||(x1g f).any (fun n=>p.globals.any fun s=>n==s)) with
 | true =>
   rw [cond_true]
   refine ⟨fun h=>by (cases h),fun h => ?_⟩
   have:=h1.2 h.nd
   rw [hc] at this
   cases this
 | false =>
   rw [cond_false,Option.map_eq_none_iff,List.find?_eq_none]
   constructor
   ·exact fun h=>⟨h1.1 hc,fun t ht=>by have:=h t ht;simpa using this⟩
   ·intro h t ht
    rw [h.kn t ht]
    decide
theorem z2a {p:Pg} (hm:WM p=true):(QR p).1=0↔ZX p=false ∧ ∀ f∈p.procs,ScopeOK p f:=by
 unfold QR
 rw [hm,cond_true]
 cases hb:ZX p with
 | true=>rw [cond_true];exact ⟨fun h=>by simp at h,fun h=>by cases h.1⟩
 | false =>
   have hg:XZ p.globals=false:=by
    unfold ZX at hb
    rw [Bool.or_eq_false_iff] at hb
    exact hb.1
   rw [cond_false]
   cases hf:p.procs.findSome? (WV p) with
   | some a =>
     refine ⟨fun h=>by simp at h,fun h => ?_⟩
     obtain ⟨f,hm2,hq⟩:=List.exists_of_findSome?_eq_some hf
     rw [(q4p hg).2 (h.2 f hm2)] at hq
     cases hq
   | none=>exact ⟨fun _=>⟨rfl,fun f hm2=>(q4p hg).1 (List.findSome?_eq_none_iff.1 hf f hm2)⟩,fun _=>rfl⟩
theorem x2z {p:Pg} (hs:(QR p).1=0):(WL p).1=0 ↔ ∀ t∈YT p,t.kind=4→UY p t=true:=by
 unfold WL
 rw [if_neg (by omega)]
 cases hf:(YT p).find? fun t=>decide (t.kind=4) && !UY p t with
 | some t =>
   have h1:=List.mem_of_find?_eq_some hf
   have h2:=List.find?_some hf
   simp only [Bool.and_eq_true,decide_eq_true_eq,Bool.not_eq_true'] at h2
   refine ⟨fun h=>by simp at h,fun h => ?_⟩
   have:=h t h1 h2.1
   rw [h2.2] at this
   cases this
 | none =>
   refine ⟨fun _ t ht hk => ?_,fun _=>rfl⟩
   have:=List.find?_eq_none.1 hf t ht
   simp only [Bool.and_eq_true,decide_eq_true_eq,Bool.not_eq_true',not_and] at this
   simpa using this hk
theorem z2n {p:Pg} (ha:(WL p).1=0):(KM p).1=0 ↔ ∀ t∈YT p,t.kind=4→XU t.name (VS p t.proc) t.args []=true:=by
 unfold KM
 rw [if_neg (by omega)]
 cases hf:(YT p).find? fun t=>decide (t.kind=4) && !XU t.name (VS p t.proc) t.args [] with
 | some t =>
   have h1:=List.mem_of_find?_eq_some hf
   have h2:=List.find?_some hf
   simp only [Bool.and_eq_true,decide_eq_true_eq,Bool.not_eq_true'] at h2
   refine ⟨fun h=>by simp at h,fun h => ?_⟩
   have:=h t h1 h2.1
   rw [h2.2] at this
   cases this
 | none =>
   refine ⟨fun _ t ht hk => ?_,fun _=>rfl⟩
   have:=List.find?_eq_none.1 hf t ht
   simp only [Bool.and_eq_true,decide_eq_true_eq,Bool.not_eq_true',not_and] at this
   simpa using this hk
theorem q9j {p:Pg}:VV p=true↔WM p=true∧(QR p).1=0∧(WL p).1=0∧(BG p).1=0∧(KM p).1=0:=by
 refine ⟨QE,fun ⟨h1,h2,h3,h4,h5⟩ => ?_⟩
 unfold VV x9t
 rw [decide_eq_true_eq,if_neg (by rw [h1];decide),if_neg (by omega),if_neg (by omega),if_neg (by omega)]
 exact h5
theorem x0m {p:Pg} (h:WM p=true):(allR p).map RI.s=YT p:=by
 rw [LO h]
 exact z7z p.procs
open Go.Proofs
theorem z8x {l:List Nat} {a:Nat} (h:a∈l):a≤x8i l:=by
 induction l with
 | nil=>cases h
 | cons b r ih =>
   rw [x8i]
   rcases List.mem_cons.1 h with rfl|h
   ·omega
   ·have:=ih h
    omega
theorem q6m : ∀ (n:Nat) (x:X) (k:Nat),wX x<k→JI n x≤n→DT k x=true→WF n x=true
 | 0,x,k,_,h,_=>by rw [JI] at h;omega
 | n+1,x,0,hk,_,_=>by omega
 | n+1,x,k+1,hk,h,hf=>by
   rw [JI] at h
   rw [DT,Bool.and_eq_true,List.all_eq_true] at hf
   obtain ⟨ho,hkids⟩:=hf
   have hxe:wX x=1+wXs x.kids:=by cases x;rw [wX];rfl
   have hk2 : ∀ y∈x.kids,WF n y=true:=fun y hy=>q6m n y k (by have:=x4t _ _ hy;omega) (by have:=z8x (List.mem_map.2 ⟨y,hy,rfl⟩:JI n y∈x.kids.map (JI n));omega) (hkids y hy)
   unfold KJ at ho
   simp only [Bool.and_eq_true,Bool.or_eq_true,decide_eq_true_eq,beq_iff_eq] at ho
   obtain ⟨⟨⟨⟨h1,h2⟩,h3⟩,h4⟩,h5⟩:=ho
   rw [WF,Bool.and_eq_true,decide_eq_true_eq]
   refine ⟨h1.symm,?_⟩
   split
   ·rename_i h6
    rw [h6,decide_eq_false (by decide)] at h4
    simp_all
   ·rename_i h6
    split
    ·rename_i h7
     rw [decide_eq_true h7] at h4
     simp_all
    ·rename_i h7
     rw [decide_eq_false h7] at h4
     simp_all
theorem x4h (x:X):mayXR x=z2g x:=by
 rw [Bool.eq_iff_iff]
 refine ⟨fun h => ?_,z2w⟩
 unfold mayXR at h
 rw [Bool.and_eq_true,decide_eq_true_eq] at h
 exact q6m 20 x _ (Nat.lt_succ_self _) h.1 h.2
theorem z8p (a:Arg):argR a=NA a:=by
 unfold argR NA UD GO
 rw [x4h]
 cases a.ref<;>rfl
theorem z3c {s:S} (h:OneF s):oneOk s=true:=by
 obtain ⟨f1,f2,f3,f4,f5,f6,f7,f8,f9,f10,f11,f12,f13,f14⟩:=h
 have h11:s.args.all NA=true:=by
  rw [List.all_eq_true] at f11 ⊢
  exact fun a ha=>by rw [← z8p];exact f11 a ha
 rw [x4h] at f4
 have hk:s.kind=1∨s.kind=2∨s.kind=3∨s.kind=4∨s.kind=5∨s.kind=6∨s.kind=7∨s.kind=8∨s.kind=9∨s.kind=10:=by omega
 have hz : ∀ {α:Type} (l:List α),l.length=0→decide (0<l.length)=false:=fun l h=>decide_eq_false (by omega)
 have hnm : ¬(s.kind=1∨s.kind=2∨s.kind=10)→s.kind≠4→(s.name==[])=true:=fun h1 h2=>by
  rcases f8 h1 with h|h
  ·exact h
  ·exact absurd h.1 h2
 have hhas:s.kind≠9→s.has=false:=fun h=>by
  cases hq:s.has with
  | false=>rfl
  | true=>exact absurd (f6 hq) h
 unfold oneOk
 rw [Bool.and_eq_true]
 refine ⟨?_,f1⟩
 have key : ∀ (f:Flds),LZ s.kind s.has (s.name==[])=some f→f.has=false→(f.thn=false→s.thn.length=0)→(f.els=false→s.els.length=0)→(s.kind≠4→s.args.length=0)→UD s.name f.name=true→UD s.proc f.proc=true→GO s.x f.x=true→WW s=true:=fun f hf a1 a2 a3 a4 a5 a6 a7=>by
  rw [q7u hf,a1,a5,a6,a7,h11]
  have e1:(!f.thn&&decide (0<s.thn.length))=false:=by
   cases ht:f.thn with
   | true=>rfl
   | false=>rw [hz _ (a2 ht)];rfl
  have e2:(!f.els&&decide (0<s.els.length))=false:=by
   cases ht:f.els with
   | true=>rfl
   | false=>rw [hz _ (a3 ht)];rfl
  have e3:(!decide (s.kind=4)&&decide (0<s.args.length))=false:=by
   by_cases h4:s.kind=4
   ·rw [decide_eq_true h4];rfl
   ·rw [hz _ (a4 h4)];exact Bool.and_false _
  rw [e1,e2,e3]
  rfl
 have noP:s.kind≠4→UD s.proc false=true:=fun h=>f10 h
 rcases hk with hk|hk|hk|hk|hk|hk|hk|hk|hk|hk
 ·exact key ⟨true,false,true,s.has,false,false⟩ (by rw [hk];rfl) (hhas (by omega)) (fun _=>by omega) (fun _=>by omega) f12 (f7 (by omega)) (noP (by omega)) (f4 (by unfold hasXB;rw [hk];rfl))
 ·exact key ⟨true,false,false,s.has,false,false⟩ (by rw [hk];rfl) (hhas (by omega)) (fun _=>by omega) (fun _=>by omega) f12 (f7 (by omega)) (noP (by omega)) (f5 (by unfold hasXB;rw [hk];rfl))
 ·exact key ⟨false,false,true,s.has,false,false⟩ (by rw [hk];rfl) (hhas (by omega)) (fun _=>by omega) (fun _=>by omega) f12 (hnm (by omega) (by omega)) (noP (by omega)) (f4 (by unfold hasXB;rw [hk];rfl))
 ·refine key ⟨!(s.name==[]),true,false,s.has,false,false⟩ (by rw [hk];rfl) (hhas (by omega)) (fun _=>by omega) (fun _=>by omega) f12 ?_ (f9 hk) (f5 (by unfold hasXB;rw [hk];rfl))
  rcases f8 (by omega) with h|h
  ·rw [h];exact h
  ·rw [q0q h.2];exact h.2
 ·exact key ⟨false,false,true,s.has,true,true⟩ (by rw [hk];rfl) (hhas (by omega)) (fun h=>by cases h) (fun h=>by cases h) f12 (hnm (by omega) (by omega)) (noP (by omega)) (f4 (by unfold hasXB;rw [hk];rfl))
 ·exact key ⟨false,false,true,s.has,true,false⟩ (by rw [hk];rfl) (hhas (by omega)) (fun h=>by cases h) (fun _=>by omega) f12 (hnm (by omega) (by omega)) (noP (by omega)) (f4 (by unfold hasXB;rw [hk];rfl))
 ·exact key ⟨false,false,false,s.has,false,false⟩ (by rw [hk];rfl) (hhas (by omega)) (fun _=>by omega) (fun _=>by omega) f12 (hnm (by omega) (by omega)) (noP (by omega)) (f5 (by unfold hasXB;rw [hk];rfl))
 ·exact key ⟨false,false,false,s.has,false,false⟩ (by rw [hk];rfl) (hhas (by omega)) (fun _=>by omega) (fun _=>by omega) f12 (hnm (by omega) (by omega)) (noP (by omega)) (f5 (by unfold hasXB;rw [hk];rfl))
 ·refine key ⟨false,false,s.has,false,false,false⟩ (by rw [hk];rfl) rfl (fun _=>by omega) (fun _=>by omega) f12 (hnm (by omega) (by omega)) (noP (by omega)) ?_
  cases hh:s.has with
  | true=>exact f4 (by unfold hasXB;rw [hk,hh];rfl)
  | false=>exact f5 (by unfold hasXB;rw [hk,hh];rfl)
 ·exact key ⟨true,false,false,s.has,false,false⟩ (by rw [hk];rfl) (hhas (by omega)) (fun _=>by omega) (fun _=>by omega) f12 (f7 (by omega)) (noP (by omega)) (f5 (by unfold hasXB;rw [hk];rfl))
theorem z5y : ∀ (k:Nat) (l:List S) (i:Int) (e:Bool) (out:List RI),(flF k i e l out).length≤200→(∀ x∈flF k i e l out,x.deep≤12)→flF k i e l out=out++fuL (13-(k:Int)) i e l:=by
 intro k
 induction k with
 | zero =>
   intro l i e out h1 h2
   cases l with
   | nil=>rw [fuL,List.append_nil];rfl
   | cons s r =>
     exfalso
     have e0:flF 0 i e (s::r) out=flF 0 i e r (if out.length≤200 then out++[⟨s,13,i,e⟩] else out):=rfl
     rw [e0] at h1 h2
     have hl:=(FV 0 i e r (if out.length≤200 then out++[⟨s,13,i,e⟩] else out)).1
     by_cases ho:out.length≤200
     ·rw [if_pos ho] at h1 h2 hl
      have hpre : ∀ (r:List S) (o:List RI) (x:RI),x∈o→x∈flF 0 i e r o:=fun r=>by
       induction r with
       | nil=>exact fun o x hx=>hx
       | cons a r ih =>
         intro o x hx
         show x∈flF 0 i e r (if o.length≤200 then o++[⟨a,13,i,e⟩] else o)
         refine ih _ _ ?_
         split
         ·exact List.mem_append.2 (.inl hx)
         ·exact hx
      have:=h2 _ (hpre r _ ⟨s,13,i,e⟩ (List.mem_append.2 (.inr (List.mem_singleton.2 rfl))))
      simp at this
     ·rw [if_neg ho] at h1 hl
      omega
 | succ k ih =>
   intro l
   induction l with
   | nil=>intro i e out h1 h2;rw [fuL,List.append_nil];rfl
   | cons s r ihr =>
     intro i e out h1 h2
     have e0:flF (k+1) i e (s::r) out=flF (k+1) i e r (if out.length≤200 then flF k s.id true s.els (flF k s.id false s.thn (out++[⟨s,13-((k+1:Nat):Int),i,e⟩])) else out):=rfl
     rw [e0] at h1 h2 ⊢
     have hl:=(FV (k+1) i e r (if out.length≤200 then flF k s.id true s.els (flF k s.id false s.thn (out++[⟨s,13-((k+1:Nat):Int),i,e⟩])) else out)).1
     have ho:out.length≤200:=by
      refine Classical.byContradiction fun hq => ?_
      rw [if_neg hq] at hl h1
      omega
     rw [if_pos ho] at h1 h2 hl ⊢
     have h3:=ihr i e _ h1 h2
     rw [h3] at h2
     have h2' : ∀ x∈flF k s.id true s.els (flF k s.id false s.thn (out++[⟨s,13-((k+1:Nat):Int),i,e⟩])),x.deep≤12:=fun x hx=>h2 x (List.mem_append.2 (.inl hx))
     have h4:=ih s.els s.id true _ (by omega) h2'
     rw [h4] at h2'
     have h2'' : ∀ x∈flF k s.id false s.thn (out++[⟨s,13-((k+1:Nat):Int),i,e⟩]),x.deep≤12:=fun x hx=>h2' x (List.mem_append.2 (.inl hx))
     have hl2:=(FV k s.id true s.els (flF k s.id false s.thn (out++[⟨s,13-((k+1:Nat):Int),i,e⟩]))).1
     have h5:=ih s.thn s.id false _ (by omega) h2''
     have ed:(13:Int)-((k+1:Nat):Int)+1=13-(k:Int):=by omega
     rw [h3,h4,h5,fuL,q6p,ed]
     simp
mutual
theorem z7k (d i:Int) (e:Bool) (seen:Nat) : ∀ (t:S),(fuS d i e t).map (fun x=>x.s.id)=KH seen (ZZ t)→(∀ x∈fuS d i e t,x.deep≤12∧oneOk x.s=true)→seen+ZZ t≤200→q4w d seen t=some ((seen+ZZ t:Nat):Int)
 | .mk id kind labels name proc x has args thn els,h1,h2,h3=>by
   have hc:ZZ (.mk id kind labels name proc x has args thn els)=1+QY thn+QY els:=ZA _
   rw [fuS] at h1 h2
   rw [hc] at h1 h3 ⊢
   have hsp:KH seen (1+QY thn+QY els)=((seen:Int)+1)::(KH (seen+1) (QY thn)++KH (seen+1+QY thn) (QY els)):=by
    rw [← GQ]
    unfold KH
    rw [show 1+QY thn+QY els=(QY thn+QY els)+1 by omega,List.range'_succ,List.map_cons]
    congr 1
   rw [hsp,List.map_cons,List.map_append] at h1
   have hid:id=(seen:Int)+1:=(List.cons.inj h1).1
   have h1':=(List.cons.inj h1).2
   have hlen:((fuL (d+1) id false thn).map fun x=>x.s.id).length=(KH (seen+1) (QY thn)).length:=by
    rw [List.length_map,JR];unfold KH;simp
   obtain ⟨ha,hb⟩:=List.append_inj h1' hlen
   have hok:=h2 _ List.mem_cons_self
   have r1:=x0j (d+1) id false (seen+1) thn ha (fun x hx=>h2 x (List.mem_cons_of_mem _ (List.mem_append.2 (.inl hx)))) (by omega)
   have r2:=x0j (d+1) id true (seen+1+QY thn) els hb (fun x hx=>h2 x (List.mem_cons_of_mem _ (List.mem_append.2 (.inr hx)))) (by omega)
   have hoo:=hok.2
   unfold oneOk at hoo
   rw [Bool.and_eq_true] at hoo
   rw [q4w,if_neg (by omega),if_neg (by omega),show namesB labels=true from hoo.2,cond_true,show WW (.mk id kind labels name proc x has args thn els)=true from hoo.1,cond_true]
   have e1:(seen:Int)+1=((seen+1:Nat):Int):=by omega
   rw [e1,r1]
   simp only
   rw [r2]
   congr 1
   omega
theorem x0j (d i:Int) (e:Bool) (seen:Nat) : ∀ (l:List S),(fuL d i e l).map (fun x=>x.s.id)=KH seen (QY l)→(∀ x∈fuL d i e l,x.deep≤12∧oneOk x.s=true)→seen+QY l≤200→ZW d seen l=some ((seen+QY l:Nat):Int)
 | [],_,_,_=>by rw [ZW,QY];rfl
 | t::r,h1,h2,h3=>by
   rw [fuL] at h1 h2
   have hc:QY (t::r)=ZZ t+QY r:=by rw [QY]
   rw [hc] at h1 h3 ⊢
   rw [GQ,List.map_append] at h1
   have hlen:((fuS d i e t).map fun x=>x.s.id).length=(KH seen (ZZ t)).length:=by
    have:=JR d i e [t]
    rw [fuL,fuL,List.append_nil,QY,QY] at this
    rw [List.length_map,this];unfold KH;simp
   obtain ⟨ha,hb⟩:=List.append_inj h1 hlen
   have hd:d≤12:=by
    have:(⟨t,d,i,e⟩:RI)∈fuS d i e t++fuL d i e r:=List.mem_append.2 (.inl (by rw [q6p];exact List.mem_cons_self))
    exact (h2 _ this).1
   have r1:=z7k d i e seen t ha (fun x hx=>h2 x (List.mem_append.2 (.inl hx))) (by omega)
   have r2:=x0j d i e (seen+ZZ t) r hb (fun x hx=>h2 x (List.mem_append.2 (.inr hx))) (by omega)
   rw [ZW,if_neg (by omega),r1]
   simp only
   rw [r2]
   congr 1
   omega
end
theorem x2h : ∀ (l:List Pr) (seen:Nat),(∀ f∈l,JL f=true)→((l.flatMap flatU).map fun x=>x.s.id)=KH seen (WA l)→(∀ x∈l.flatMap flatU,x.deep≤12∧oneOk x.s=true)→seen+WA l≤200→(XD seen l).isSome=true
 | [],_,_,_,_,_=>rfl
 | f::r,seen,h1,h2,h3,h4=>by
   rw [List.flatMap_cons] at h2 h3
   have hc:WA (f::r)=QY f.body+WA r:=by rw [WA]
   rw [hc] at h2 h4
   rw [GQ,List.map_append] at h2
   have hlen:((flatU f).map fun x=>x.s.id).length=(KH seen (QY f.body)).length:=by
    unfold flatU
    rw [List.length_map,JR];unfold KH;simp
   obtain ⟨ha,hb⟩:=List.append_inj h2 hlen
   have r1:=x0j 1 0 false seen f.body ha (fun x hx=>h3 x (List.mem_append.2 (.inl hx))) (by omega)
   have r2:=x2h r (seen+QY f.body) (fun g hg=>h1 g (List.mem_cons_of_mem _ hg)) hb (fun x hx=>h3 x (List.mem_append.2 (.inr hx))) (by omega)
   rw [XD,h1 f List.mem_cons_self,cond_true,r1]
   exact r2
theorem x8v : ∀ (l:List Pr) (out:List RI),(HI l out).length≤200→(∀ x∈HI l out,x.deep≤12)→HI l out=out++l.flatMap flatU:=by
 intro l
 induction l with
 | nil=>intro out _ _;show out=_;simp
 | cons f r ih =>
   intro out h1 h2
   have mono : ∀ (r:List Pr) (o:List RI),o.length≤(HI r o).length:=fun r=>by
    induction r with
    | nil=>exact fun o=>Nat.le_refl _
    | cons g r ih =>
      intro o
      show _≤(HI r (if o.length≤200 then o++ZV g else o)).length
      have:=ih (if o.length≤200 then o++ZV g else o)
      split at this
      ·rw [if_pos (by assumption)]
       simp only [List.length_append] at this
       omega
      ·rw [if_neg (by assumption)]
       exact this
   have e0:HI (f::r) out=HI r (if out.length≤200 then out++ZV f else out):=rfl
   rw [e0] at h1 h2 ⊢
   have hm:=mono r (if out.length≤200 then out++ZV f else out)
   have ho:out.length≤200:=by
    refine Classical.byContradiction fun hq => ?_
    rw [if_neg hq] at hm h1
    omega
   rw [if_pos ho] at h1 h2 hm ⊢
   have h3:=ih _ h1 h2
   rw [h3] at h2 h1 ⊢
   simp only [List.length_append] at h1
   have h4:=z5y 12 f.body 0 false [] (by show (ZV f).length≤200;omega) (fun x hx=>h2 x (List.mem_append.2 (.inl (List.mem_append.2 (.inr hx)))))
   have h5:ZV f=flatU f:=by simpa [ZV,flatU] using h4
   rw [h5]
   simp
theorem z9k {p:Pg} (h1:p.globals.length≤16) (h2:p.procs.length≤16) (h3:namesB p.globals=true) (h4 : ∀ f∈p.procs,JL f=true) (h5:(allR p).length≤200) (h6 : ∀ (k:Nat) (x:RI),(allR p)[k]? = some x→x.s.id=(k:Int)+1∧x.deep≤12∧oneOk x.s=true):WM p=true:=by
 have hmem : ∀ x∈allR p,x.deep≤12∧oneOk x.s=true:=fun x hx=>by
  obtain ⟨k,hk,rfl⟩:=List.mem_iff_getElem.1 hx
  exact (h6 k _ (List.getElem?_eq_getElem hk)).2
 have he:allR p=p.procs.flatMap flatU:=by
  have:=x8v p.procs [] h5 (fun x hx=>(hmem x hx).1)
  simpa [allR] using this
 have hids:(p.procs.flatMap flatU).map (fun x=>x.s.id)=KH 0 (WA p.procs):=by
  refine List.ext_getElem? fun k => ?_
  rw [List.getElem?_map,← he]
  rcases Nat.lt_or_ge k (allR p).length with hk|hk
  ·have hk2:k<WA p.procs:=by rw [← MF,← he];exact hk
   rw [List.getElem?_eq_getElem hk]
   have:=(h6 k _ (List.getElem?_eq_getElem hk)).1
   unfold KH
   rw [List.getElem?_map,List.getElem?_range' hk2]
   simp only [Option.map_some,this]
   congr 1
   omega
  ·have hk2:WA p.procs≤k:=by rw [← MF,← he];exact hk
   rw [List.getElem?_eq_none hk,List.getElem?_eq_none (by unfold KH;simpa using hk2)]
   rfl
 have hlen:0+WA p.procs≤200:=by rw [← MF,← he];omega
 have:=x2h p.procs 0 h4 hids (fun x hx=>hmem x (by rw [he];exact hx)) hlen
 unfold WM
 rw [decide_eq_true h1,decide_eq_true h2,h3]
 exact this
end Go.Ab
