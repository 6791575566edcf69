/- How many statements there are; the reference's ways from a place. -/
import Derived.Test.YtkgbhpcfnpfpcaaGreatCfL5
import Derived.Test.YtkgbhpcfnpfpcaaGreatCfL9
import Derived.Test.YtkgbhpcfnpfpcaaGreatCfL10
import Derived.Test.YtkgbhpcfnpfpcaaGreatCfL13
import Derived.Test.YtkgbhpcfnpfpcaaGreatCfL15
import Derived.Test.YtkgbhpcfnpfpcaaGreatCfL16
set_option linter.unusedSimpArgs false
set_option linter.unusedVariables false
set_option maxRecDepth 100000
set_option maxHeartbeats 16000000
open List (drop_eq_nil_of_le getD_eq_getElem?_getD length_append length_cons length_map length_nil map_cons mem_cons_self)
open Nat (zero_le)
namespace Go.Ab
open Go.Proofs
theorem x3k : ∀ (k:Nat) (l:List S) (_:QF l<k) (_:QF l<=1000000),SpecP Tryz.prog 78 [eSs l] (fun r=>r = .int .i64 (QF l)):=by
 intro k;induction k with
 | zero=>intro l h;omega
 | succ k ih =>
   intro l hk hl;have hll:=S.avs_len l;have hlc:l.length<=QF l:=by
    clear hk hl hll;induction l with
    | nil=>simp
    | cons t r ihr=>rw [QF,WY,length_cons];omega
   refine sB q8b Tryz.func78 rfl Tryz.call78 ?_;conv=>whnf
   repeat' (refine iM fun _=>?_;conv=>whnf)
   refine LoopK.inv QY (fun y:Nat×Nat=>⟨[(0,.p (eSs l)),(3,.p (.int .i64 y.2)),(8,.p (.int .i64 (S.avs l).length)),(9,.p (.int .i64 y.1))],[]⟩) (fun y=>y.1<=l.length∧y.2+QF (l.drop y.1)=QF l+(l.length-y.1)) (fun y=>l.length-y.1) (0,l.length) (Le.of_eq (by simp only [S.avs_len];rfl)) ⟨zero_le _,by simp;omega⟩ ?_;rintro ⟨j,n⟩ ⟨h2,h3⟩;simp only at h2 h3 ⊢;rcases Nat.lt_or_ge j l.length with hj|hj
   ·have hst:=FE hj;have hcs:=WY l[j];have h4:QF (l.drop j)<=QF l:=by
     have : ∀ (l:List S) (j:Nat),QF (l.drop j)<=QF l:=fun l=>by
      induction l with
      | nil=>intro j;simp
      | cons t r ihr =>
        intro j;cases j with
        | zero=>simp
        | succ j=>rw [List.drop_succ_cons,QF];have:=ihr j;omega
     exact this l j
    conv=>whnf
    repeat' (first|((first|refine dA ?_|refine QX (by omega) ?_|refine wI ?_|(refine CallK.pure (ih l[j].thn (by omega) (by omega)) (.cons (Sub.refl _) .nil) ?_;rintro _ rfl)|(refine CallK.pure (ih l[j].els (by omega) (by omega)) (.cons (Sub.refl _) .nil) ?_;rintro _ rfl));conv=>whnf)|(apply bD<;>intro _<;>first|omega|conv=>whnf))
    all_goals exact ⟨(j+1,n+(QF l[j].thn+QF l[j].els)),⟨by simp only;omega,by simp only;omega⟩,by simp only;omega,Le.of_eq rfl⟩
   ·conv=>whnf
    rw [drop_eq_nil_of_le hj,QF] at h3;repeat' (apply bD<;>intro _<;>first|omega|conv=>whnf)
    exact RetK.int (by omega)
theorem x3d (p:Pg) (hc:WR p.procs<=1000):SpecP Tryz.prog 18 [.agg p.cells] (fun r=>r = .int .i64 (WR p.procs)):=by
 refine sB q7p Tryz.func18 rfl Tryz.call18 ?_;conv=>whnf
 have hl2:(p.procs.map fun f=>AV.agg f.cells).length=p.procs.length:=length_map _;repeat' (refine iM fun _=>?_;conv=>whnf)
 refine LoopK.inv QY (fun y:Nat×Nat=>⟨[(3,.p (.int .i64 y.2)),(7,.p (.sl (p.procs.map fun f => .agg f.cells))),(8,.p (.int .i64 (p.procs.map fun f=>AV.agg f.cells).length)),(9,.p (.int .i64 y.1))],[]⟩) (fun y=>y.1<=p.procs.length∧y.2+WR (p.procs.drop y.1)=WR p.procs) (fun y=>p.procs.length-y.1) (0,0) (Le.of_eq rfl) ⟨zero_le _,by simp⟩ ?_;rintro ⟨j,n⟩ ⟨h2,h3⟩;simp only at h2 h3 ⊢;rcases Nat.lt_or_ge j p.procs.length with hj|hj
 ·have hst:=LR hj;have hcm:=q5d _ _ (List.getElem_mem hj);conv=>whnf
  repeat' (first|((first|refine And.intro rfl ?_|(refine iA fun _=>?_)|refine wI ?_|(refine CallK.pure (x3k (QF p.procs[j].body+1) p.procs[j].body (by omega) (by omega)) (.cons (Sub.refl _) .nil) ?_;rintro _ rfl));conv=>whnf)|(apply bD<;>intro _<;>first|omega|conv=>whnf))
  exact ⟨(j+1,n+QF p.procs[j].body),⟨by simp only;omega,by simp only;omega⟩,by simp only;omega,Le.of_eq rfl⟩
 ·conv=>whnf
  rw [drop_eq_nil_of_le hj,WR] at h3;repeat' (apply bD<;>intro _<;>first|omega|conv=>whnf)
  exact RetK.int (by omega)
def q8w (p:Pg) (most:Int):Bool:=ZF p&&decide ((WR p.procs:Int)<=most)
theorem HV (p:Pg) (hf:Fit p) (most:Int):SpecP Tryz.prog 40 [.agg p.cells,.int .i64 most] (fun r=>r = .bool (q8w p most)):=by
 refine sB JM Tryz.func40 rfl Tryz.call40 ?_;conv=>whnf
 have hC:=ZR p hf;unfold q8w;cases hc:ZF p with
 | false =>
   rw [hc] at hC;repeat' (first|(refine cP hC ?_;conv=>whnf)|(apply bB<;>intro _<;>conv=>whnf))
   all_goals first
    | contradiction
    | exact RetK.ff rfl
 | true =>
   rw [hc] at hC;have hcn:=(UJ hc).2.2;repeat' (first|((first|refine cP hC ?_|(refine CallK.pure (x3d p (by omega)) (.cons (Sub.refl _) .nil) ?_;rintro _ rfl));conv=>whnf)|(apply bB<;>intro _<;>conv=>whnf))
   all_goals first
    | contradiction
    | exact RetK.bool (by simp)
theorem x0a {p:Pg} (h:ZF p=true) {j:Nat} {f:Pr} (hj:p.procs[j]? = some f) {a:Int} (h1:(QT p.procs j:Int)+1<=a) (h2:a<=(QT p.procs j+QF f.body:Nat)) : ∃ t∈flL f.body,z3c p a=some t∧t.id=a:=by
 obtain ⟨it,h3,h4⟩:=YT hj (k:=(a-1).toNat) (by omega) (by omega);refine ⟨it.s,DE h4,by unfold z3c;rw [h3];rfl,?_⟩;obtain ⟨_,_,_,hlen,hsp⟩:=QU p;obtain ⟨_,_,hle,hd⟩:=hsp j f hj;have hids:=x8m (QP h).1 hj;have h5:(itsOf p j f)[(a-1).toNat-QT p.procs j]? = some it:=by
  unfold itsOf;rw [<- hd,List.getElem?_drop,List.getElem?_take,if_pos (by omega),show QT p.procs j+((a-1).toNat-QT p.procs j)=(a-1).toNat by omega];exact h3
 have h6:((itsOf p j f).map fun it=>it.s.id)[(a-1).toNat-QT p.procs j]? = some it.s.id:=by rw [List.getElem?_map,h5];rfl
 rw [hids] at h6;unfold q4x at h6;rw [List.getElem?_map,List.getElem?_range' (by omega)] at h6;simp at h6;omega
section
variable {α:Type} {R:α->α->Prop} {l out:List α} {i k:Nat}
end
def ordP (a b:Int):Prop:=w0n a b=true
theorem z2f {a b:Int}:ordP a b↔(b = -1∧a ≠ -1)∨(a ≠ -1∧b ≠ -1∧a<b):=by
 unfold ordP w0n;by_cases ha:a = -1<;>by_cases hb:b = -1<;>simp [ha,hb]
theorem q5u {p:Pg} (h:ZF p=true) {j:Nat} {f:Pr} (hj:p.procs[j]? = some f) {k:Nat} {it:Item} (h1:QT p.procs j<=k) (h2:k<QT p.procs j+QF f.body) (hk:(sheetOf p).l[k]? = some it):it.s.id=(k:Int)+1:=by
 obtain ⟨t,_,h4,h5⟩:=x0a h hj (a:=(k:Int)+1) (by omega) (by omega);unfold z3c at h4;rw [show ((k:Int)+1-1).toNat=k by omega,hk] at h4;cases h4;exact h5
theorem z3o {p:Pg} {j:Nat} {f:Pr} {it:Item} (hi:it∈itsOf p j f) {y:Int} (hy:y∈VZ (sheetOf p) f it):(⟨it.s.id,y,1⟩:Step)∈QG p j f:=by
 unfold QG;exact List.mem_cons_of_mem _ (List.mem_flatMap.2 ⟨it,hi,List.mem_map.2 ⟨y,hy,rfl⟩⟩)
section
variable {p:Pg} {j:Nat} {f:Pr}
def wR (p:Pg) (j:Nat) (f:Pr):Int->Int->Prop:=stR (QR p j f).real
end
instance (a b:Step):Decidable (x9a a b):=inferInstanceAs (Decidable (_∨_))
instance:DecidableEq Step:=fun a b=>decidable_of_iff (a.src=b.src∧a.dst=b.dst∧a.kind=b.kind) ⟨fun h=>PX h.1 h.2.1 h.2.2,fun h=>by rw [h];exact ⟨rfl,rfl,rfl⟩⟩
theorem z5b {p:Pg} (h:ZF p=true) {j:Nat} {f:Pr} (hj:p.procs[j]? = some f) {t:S} (ht:t∈flL f.body):z3c p t.id=some t:=by
 have hb:=UX (QP h).1 hj ht;obtain ⟨u,hu,h1,h2⟩:=x0a h hj hb.1 hb.2;obtain ⟨it,hi,rfl⟩:=z2z (p:=p) (j:=j) ht;obtain ⟨iu,hiu,rfl⟩:=z2z (p:=p) (j:=j) hu;rw [z3a (QP h).1 hj hiu hi h2] at h1;exact h1
theorem z5p {p:Pg} (h:ZF p=true) {j:Nat} {f:Pr} (hj:p.procs[j]? = some f) {x:RI} (hx:x∈JR f):x.s∈flL f.body:=by
 rw [DX (QP h).1 (List.mem_of_getElem? hj)] at hx;rw [<- show (flatU f).map RI.s=flL f.body from q8p 1 0 false f.body];exact List.mem_map.2 ⟨x,hx,rfl⟩
def RI0:RI:=⟨.mk 0 0 [] [] [] (.mk 0 0 [] []) false [] [] [],0,0,false⟩
def q9j (id:Int) (f:Pr):Option (RI×Str):=((JR f).find? fun x=>decide (x.s.id=id)).map fun x=>(x,f.name)
def q3v (p:Pg) (id:Int):Option (RI×Str):=p.procs.findSome? (q9j id)
def UM (p:Pg) (id:Int):RI×Str×Bool:=match q3v p id with
 | some (x,n)=>(x,n,true)
 | none=>(RI0,[],false)
theorem z5v:Sub (.agg [.int .i64 0,.int .i64 0,.nils,.str [],.str [],.int .i64 0,.int .i64 0,.str [],.nils,.ff,.nils,.nils,.nils,.int .i64 0,.int .i64 0,.ff]) (.agg RI0.cells) :=
 Sub.agg (by repeat' (first|exact SubL.nil|refine SubL.cons ?_ ?_|exact Sub.nils|exact Sub.ff rfl|exact Sub.refl _))
theorem x5r {l:List RI} {q:RI->Bool} {k:Nat} (hk:k<l.length):(l.drop k).find? q=if q l[k] then some l[k] else (l.drop (k+1)).find? q:=by
 rw [QJ hk,List.find?_cons];cases q l[k]<;>rfl
theorem BM (p:Pg) (id:Int):SpecP Tryz.prog 26 [.agg p.cells,.int .i64 id] (fun r=>r = .tup [.agg (UM p id).1.cells,.str (UM p id).2.1,.bool (UM p id).2.2]):=by
 refine sB HD Tryz.func26 rfl Tryz.call26 ?_;conv=>whnf
 have hpl:(p.procs.map fun f=>AV.agg f.cells).length=p.procs.length:=length_map _;repeat' (refine iM fun _=>?_;conv=>whnf)
 refine LoopK.inv QY (fun j:Nat=>⟨[(1,.p (.int .i64 id)),(4,.ptr 1 0),(12,.p (.sl (p.procs.map fun f => .agg f.cells))),(13,.p (.int .i64 (p.procs.map fun f=>AV.agg f.cells).length)),(14,.p (.int .i64 j))],[(1,.obj 42 [.p (.int .i64 0),.p (.int .i64 0),.p .nils,.p (.str []),.p (.str []),.p (.int .i64 0),.p (.int .i64 0),.p (.str []),.p .nils,.p .ff,.p .nils,.p .nils,.p .nils,.p (.int .i64 0),.p (.int .i64 0),.p .ff])]⟩) (fun j=>j<=p.procs.length∧(p.procs.drop j).findSome? (q9j id)=q3v p id) (fun j=>p.procs.length-j) 0 (Le.of_eq rfl) ⟨zero_le _,rfl⟩ ?_;rintro j ⟨h2,h3⟩;rcases Nat.lt_or_ge j p.procs.length with hj|hj;rotate_left 1
 ·rw [drop_eq_nil_of_le hj,List.findSome?_nil] at h3;have hO:UM p id=(RI0,[],false):=by unfold UM;rw [<- h3]
  rw [hO];conv=>whnf
  repeat' (first|(refine And.intro rfl ?_;conv=>whnf)|(apply bD<;>intro _<;>first|omega|conv=>whnf))
  exact ⟨_,.p (Sub.tup (SubL.cons z5v (SubL.cons (Sub.refl _) (SubL.cons (Sub.ff rfl) SubL.nil)))),rfl⟩
 rw [QJ hj,List.findSome?_cons] at h3;conv=>whnf
 repeat' (first|((first|(refine iM fun _=>?_)|refine And.intro rfl ?_|(refine iA fun _=>?_)|refine cP (YD _) ?_);conv=>whnf)|(apply bD<;>intro _<;>first|omega|conv=>whnf))
 have hrl:((JR p.procs[j]).map fun i=>AV.agg i.cells).length=(JR p.procs[j]).length:=length_map _;have hff:q9j id p.procs[j]=((JR p.procs[j]).find? fun x=>decide (x.s.id=id)).map fun x=>(x,p.procs[j].name):=rfl;rw [hff] at h3;have hfl:=q6u p.procs[j];generalize JR p.procs[j]=F at hrl hfl h3 ⊢;refine LoopK.inv QY (fun k:Nat=>⟨[(1,.p (.int .i64 id)),(4,.ptr 1 0),(8,.p (.ip p.procs[j].cells)),(12,.p (.sl (p.procs.map fun f => .agg f.cells))),(13,.p (.int .i64 (p.procs.map fun f=>AV.agg f.cells).length)),(14,.p (.int .i64 j)),(19,.p (z6p F)),(20,.p (.int .i64 (F.map fun i=>AV.agg i.cells).length)),(21,.p (.int .i64 k))],[(1,.obj 42 [.p (.int .i64 0),.p (.int .i64 0),.p .nils,.p (.str []),.p (.str []),.p (.int .i64 0),.p (.int .i64 0),.p (.str []),.p .nils,.p .ff,.p .nils,.p .nils,.p .nils,.p (.int .i64 0),.p (.int .i64 0),.p .ff])]⟩) (fun k=>k<=F.length∧(F.drop k).find? (fun x=>decide (x.s.id=id))=F.find? fun x=>decide (x.s.id=id)) (fun k=>F.length-k) 0 (Le.of_eq rfl) ⟨zero_le _,rfl⟩ ?_;rintro k ⟨h4,h5⟩;rcases Nat.lt_or_ge k F.length with hk|hk;rotate_left 1
 ·rw [drop_eq_nil_of_le hk,List.find?_nil] at h5;rw [<- h5] at h3;conv=>whnf
  repeat' (first|(refine wI ?_;conv=>whnf)|(apply bD<;>intro _<;>first|omega|conv=>whnf))
  exact ⟨j+1,⟨hj,h3⟩,by omega,Le.of_eq rfl⟩
 rw [x5r hk] at h5;conv=>whnf
 repeat' (first|((first|refine dA ?_|refine And.intro rfl ?_|(refine iA fun _=>?_)|refine wI ?_);conv=>whnf)|(apply bD<;>intro _<;>first|omega|conv=>whnf))
 ·have hid:F[k].s.id=id:=by assumption
  rw [if_pos (decide_eq_true hid)] at h5;rw [<- h5] at h3;have hO:UM p id=(F[k],p.procs[j].name,true):=by unfold UM;rw [<- h3];rfl
  rw [hO];exact ⟨_,.p (Sub.tup (SubL.cons (Sub.refl _) (SubL.cons (Sub.refl _) (SubL.cons (Sub.tt rfl) SubL.nil)))),rfl⟩
 ·have hid : ¬F[k].s.id=id:=by assumption
  rw [if_neg (by simpa using hid)] at h5;exact ⟨k+1,⟨hk,h5⟩,by omega,Le.of_eq rfl⟩
theorem HG (p:Pg) (id:Int):SpecP Tryz.prog 43 [.agg p.cells,.int .i64 id] (fun r=>r = .str (UM p id).2.1):=by
 refine sB KW Tryz.func43 rfl Tryz.call43 ?_;conv=>whnf
 repeat' ((first|refine cP (BM _ _) ?_|refine And.intro rfl ?_);conv=>whnf)
 exact RetK.p rfl
instance:DecidableEq Param:=fun a b=>decidable_of_iff (a.name=b.name∧a.ref=b.ref) (by cases a;cases b;simp)
theorem z1i {p:Pg} (h:ZF p=true) {j:Nat} {f:Pr} (hj:p.procs[j]? = some f) {it:Item} (hi:it∈itsOf p j f):(sheetOf p).l[(it.s.id-1).toNat]? = some it:=by
 have hb:=UX (QP h).1 hj (DE hi);obtain ⟨it',h1,h2⟩:=YT hj (k:=(it.s.id-1).toNat) (by omega) (by omega);have h3:=q5u h hj (by omega) (by omega) h1;rw [h1,z3a (QP h).1 hj h2 hi (by omega)]
theorem x2n {p:Pg} (h:ZF p=true) : ∃ (k:Nat) (f:Pr),p.procs[k]? = some f∧p.procs.filter (fun f=>f.name==mainS)=[f]∧f.name=mainS∧f.params=[]:=by
 obtain ⟨hm,hs,_⟩:=QP h;obtain ⟨_,hb,_⟩:=US hs;unfold ZP at hb;simp only [Bool.or_eq_false_iff,Bool.not_eq_false'] at hb;obtain ⟨_,h2,h3,h4⟩:=hb;have hnd:=x2x h2;obtain ⟨k,hk,h5,h6⟩:=x2r h3;have h7:=List.find?_some h6;have hn:p.procs[k].name=mainS:=by
  have:mainS=p.procs[k].name:=by simpa using h7
  exact this.symm
 rw [h6] at h4;have hp:p.procs[k].params=[]:=List.eq_nil_of_length_eq_zero (by simpa using h4);refine ⟨k,p.procs[k],List.getElem?_eq_getElem hk,?_,hn,hp⟩;have key : ∀ (l:List Pr),(l.map Pr.name).Nodup -> ∀ f∈l,f.name=mainS->l.filter (fun f=>f.name==mainS)=[f]:=fun l=>by
  induction l with
  | nil=>intro _ f hf;cases hf
  | cons g r ih =>
    intro hnd f hf hfn;rw [map_cons,List.nodup_cons] at hnd;rcases List.mem_cons.1 hf with rfl|hf
    ·rw [List.filter_cons_of_pos (by simp [hfn])];congr 1;rw [List.filter_eq_nil_iff];intro g hg he;exact hnd.1 (by rw [hfn,<- show g.name=mainS by simpa using he];exact List.mem_map_of_mem hg)
    ·rw [List.filter_cons_of_neg (by
      intro he;exact hnd.1 (by rw [show g.name=mainS by simpa using he,<- hfn];exact List.mem_map_of_mem hf))]
     exact ih hnd.2 f hf hfn
 exact key p.procs hnd _ (List.getElem_mem hk) hn
section
variable {p:Pg} {k:Nat} {f:Pr}
end
theorem q1g : ∀ (l:List Pr) {n:Nat} {m:Int},XN n l=some m -> ∀ (j:Nat) (f:Pr),l[j]? = some f -> ∃ m',UB 1 ((n+QT l j:Nat):Int) f.body=some m'
 | [],_,_,_,j,f,hj=>by simp at hj
 | g::r,n,m,h,j,f,hj=>by
   rw [XN] at h;cases hm:GV g<;>rw [hm] at h
   ·cases h
   simp only [cond_true] at h;split at h
   ·rename_i m1 h1;cases j with
    | zero =>
      cases hj;exact ⟨m1,h1⟩
    | succ j =>
      have h2:=UR _ _ g.body h1;have h':XN ((n+QF g.body:Nat):Int) r=some m:=by rw [<- h,h2];rfl
      obtain ⟨m',h3⟩:=q1g r h' j f (by simpa using hj);exact ⟨m',by rw [<- h3,QT];congr 1;omega⟩
   ·cases h
theorem z5x {p:Pg} (h:KI p=true) {j:Nat} {f:Pr} (hj:p.procs[j]? = some f) : ∃ m,UB 1 ((QT p.procs j:Nat):Int) f.body=some m:=by
 unfold KI at h;simp only [Bool.and_eq_true] at h;obtain ⟨m,hm⟩:=Option.isSome_iff_exists.1 h.2;obtain ⟨m',h'⟩:=q1g p.procs (n:=0) hm j f hj;exact ⟨m',by rw [<- h'];congr 1;omega⟩
theorem q1r : ∀ (l:List Int) (b:List Bool) (i:Nat),i<b.length->((JF l b).getD i false=true↔b.getD i false=true ∨ ∃ a∈l,a.toNat=i)
 | [],b,i,hi=>by simp [JF]
 | a::r,b,i,hi=>by
   have ih:=q1r r (b.set a.toNat true) i (by rw [List.length_set];exact hi);have e:JF (a::r) b=JF r (b.set a.toNat true):=rfl;rw [e,ih];simp only [List.mem_cons,exists_eq_or_imp];by_cases ha:a.toNat=i
   ·simp [ha,hi,getD_eq_getElem?_getD,List.getElem?_set]
   ·simp [ha,getD_eq_getElem?_getD,List.getElem?_set]
theorem x1m {p:Pg} (h:ZF p=true) {j:Nat} {f:Pr} (hj:p.procs[j]? = some f) {y:Int} (hy:plP p j f y):(QR p j f).live.getD (ixI p j f y).toNat false=true↔Rch (wR p j f) 0 y:=by
 have hrng:=z3h hy;have hl:(QR p j f).live=JF (BK 0 (UV (XY (QF f.body+2) ((QR p j f).real.map (ixP p j f (QF f.body+2:Nat)))).1 [0])) (List.replicate (QF f.body+2) false):=rfl;rw [hl,q1r _ _ _ (by rw [List.length_replicate];omega)];have h0:(List.replicate (QF f.body+2) false).getD (ixI p j f y).toNat false=false:=by
  rw [getD_eq_getElem?_getD,List.getElem?_replicate];split<;>rfl
 rw [h0];have hs:=q2b (F:=(QR p j f).real) (HY h hj) hy;unfold wR;rw [<- hs];constructor
 ·rintro (h1|⟨a,h1,h2⟩)
  ·cases h1
  ·have ha:=q5t _ _ _ h1
   rwa [show ixI p j f y=a by omega]
 ·exact fun h1 => .inr ⟨_,h1,rfl⟩
section
variable {p:Pg} {k:Nat} {f:Pr}
end
mutual
theorem z2j : ∀ (t:S) {nest seen m:Int},q7i nest seen t=some m -> ∀ u∈flS t,oneOk u=true
 | .mk id kind labels name pr x has args thn els,nest,seen,m,h,u,hu=>by
   obtain ⟨h1,_,m1,h3,h4⟩:=DI h;rw [flS] at hu;rcases List.mem_cons.1 hu with rfl|hu
   ·exact h1
   ·rcases List.mem_append.1 hu with hu|hu
    ·exact NI thn h3 u hu
    ·exact NI els h4 u hu
theorem NI : ∀ (l:List S) {nest seen m:Int},UB nest seen l=some m -> ∀ u∈flL l,oneOk u=true
 | [],_,_,_,_,u,hu=>by rw [flL] at hu;cases hu
 | t::r,nest,seen,m,h,u,hu=>by
   obtain ⟨_,m1,h1,h2⟩:=KS h;rw [flL] at hu;rcases List.mem_append.1 hu with hu|hu
   ·exact z2j t h1 u hu
   ·exact NI r h2 u hu
end
theorem z2m {p:Pg} {j:Nat} {f:Pr} (h:ZF p=true) (hj:p.procs[j]? = some f) {t:S} (ht:t∈flL f.body):OneF t:=by
 obtain ⟨m,hr⟩:=z5x (QP h).1 hj;exact x9x (NI _ hr t ht)
section
variable {p:Pg} {j:Nat} {f:Pr}
end
def x4q (k:Int) (x:RI):Bool:=decide (k=0)||decide (x.s.kind=k)
def x6c (p:Pg) (k:Int):List Int:=((allR p).filter (x4q k)).map fun x=>x.s.id
theorem ND (p:Pg) (k:Int) (hl:(allR p).length<=1000):SpecP Tryz.prog 70 [.agg p.cells,.int .i64 k] (fun r=>r=XP (x6c p k)):=by
 refine sB HI Tryz.func70 rfl Tryz.call70 ?_;conv=>whnf
 have hrl:=q6s (allR p);repeat' ((first|(refine iM fun _=>?_)|refine cP (NH _) ?_);conv=>whnf)
 refine LoopK.inv QY (fun x:Nat×List Int=>⟨[(1,.p (.int .i64 k)),(5,.hd 0 0 x.2.length),(9,.p (z6p (allR p))),(10,.p (.int .i64 ((allR p).map fun i=>AV.agg i.cells).length)),(11,.p (.int .i64 x.1))],[(0,.own 3 1 (x.2.map (.int .i64)))]⟩) (fun x=>x.1<=(allR p).length∧x.2.length<=x.1∧x.2++(((allR p).drop x.1).filter (x4q k)).map (fun y=>y.s.id)=x6c p k) (fun x=>(allR p).length-x.1) (0,[])
  (Le.mk [(0,.own 3 1 [])] (by simp [Chunk.new0];rfl) (by simp) (by simp) (.cons (.refl _) (.cons (.nil mem_cons_self) (.cons (.refl _) (.cons (.refl _) (.cons (.refl _) .nil))))) (.new mem_cons_self .nil)) ⟨zero_le _,Nat.le_refl _,rfl⟩ ?_
 rintro ⟨j,o⟩ ⟨h2,h4,h3⟩;simp only at h2 h3 h4 ⊢;generalize hL:allR p=L at h2 h3 hrl hl ⊢;rcases Nat.lt_or_ge j L.length with hj|hj
 ·rw [List.drop_eq_getElem_cons hj] at h3;conv=>whnf
  repeat' (first|((first|refine And.intro rfl ?_|refine aD ?_|refine bP ?_|(refine iA fun _=>?_)|refine wI ?_|refine UD (by simp) (by simp;omega) ?_);conv=>whnf)|(apply bD<;>intro _<;>first|omega|conv=>whnf))
  all_goals first
   | (have e:x4q k L[j]=true:=by unfold x4q;simp [*];done
      rw [List.filter_cons_of_pos e,map_cons] at h3;exact ⟨(j+1,o++[L[j].s.id]),⟨hj,by simp;omega,by rw [List.append_assoc];exact h3⟩,by simp only;omega,Le.of_eq (by simp only [length_append,List.map_append,length_map];rfl)⟩)
   | (have e:x4q k L[j]=false:=by unfold x4q;simp [*];done
      rw [List.filter_cons_of_neg (fun hh=>by rw [e] at hh;cases hh)] at h3;exact ⟨(j+1,o),⟨hj,by simp only;omega,h3⟩,by simp only;omega,Le.of_eq rfl⟩)
   | trace_state
 ·rw [drop_eq_nil_of_le hj] at h3;simp only [List.filter_nil,List.map_nil,List.append_nil] at h3;conv=>whnf
  repeat' (apply bD<;>intro _<;>first|omega|conv=>whnf)
  all_goals first
   | exact ⟨_,.hd rfl (by simp),by rw [<- h3];rfl⟩
   | trace_state
theorem x1r : ∀ (l:List Pr) (k:Nat),k<WR l -> ∃ j f,l[j]? = some f∧QT l j<=k∧k<QT l j+QF f.body
 | [],k,h=>by rw [WR] at h;omega
 | g::r,k,h=>by
   rw [WR] at h;rcases Nat.lt_or_ge k (QF g.body) with hk|hk
   ·exact ⟨0,g,rfl,by rw [QT];omega,by rw [QT];omega⟩
   ·obtain ⟨j,f,h1,h2,h3⟩:=x1r r (k-QF g.body) (by omega);exact ⟨j+1,f,by simpa using h1,by rw [QT];omega,by rw [QT];omega⟩
namespace Own
end Own
open Go.Proofs
def w0g (l:List Int) (i:Nat):Int:=l.getD i 0
def srt (K:Int->Int) (l:List Int) (a b:Nat):Prop := ∀ i k,a<=i->i<k->k<b->K (w0g l k)<=K (w0g l i)
def blk (K:Int->Int) (l:List Int) (bs n:Nat):Prop := ∀ q,srt K l (q*bs) (min (q*bs+bs) n)
section
variable {p:Pg} {j:Nat} {f:Pr}
end
section
variable {p:Pg} {j:Nat} {f:Pr}
end
def caI (p:Pg) (t:S):Int:=idxF (fun f=>f.name==t.proc) p.procs
def caP (p:Pg) (t:S):Pr:=p.procs.getD (caI p t).toNat Pr0
section
variable {p:Pg} {j:Nat} {f:Pr}
end


section
variable {p:Pg} {j:Nat} {f:Pr}
theorem z2c {t:S} (ht:t∈flL f.body) : ∃ x∈flatU f,x.s=t:=by
 rw [<- show (flatU f).map RI.s=flL f.body from q8p 1 0 false f.body] at ht;exact List.mem_map.1 ht
end
theorem x6w {p:Pg} (hs:(QO p).1=0):(VJ p).1=0 ↔ ∀ t∈GK p,t.kind=4->KZ p t=true:=by
 unfold VJ;rw [if_neg (by omega)];cases hf:(GK p).find? fun t=>decide (t.kind=4) && !KZ p t with
 | some t =>
   have h1:=List.mem_of_find?_eq_some hf;have h2:=List.find?_some hf;simp only [Bool.and_eq_true,decide_eq_true_eq,Bool.not_eq_true'] at h2;refine ⟨fun h=>by simp at h,fun h => ?_⟩;have:=h t h1 h2.1;rw [h2.2] at this;cases this
 | none =>
   refine ⟨fun _ t ht hk => ?_,fun _=>rfl⟩;have:=List.find?_eq_none.1 hf t ht;simp only [Bool.and_eq_true,decide_eq_true_eq,Bool.not_eq_true',not_and] at this;simpa using this hk
section
variable {p:Pg} {j:Nat} {f:Pr} {n:Str}
end
theorem x2d {p:Pg} (h:ZF p=true) {f:Pr} (hf:f∈p.procs) : ∃ k,p.procs[k]? = some f∧PL p f.name=some (QR p k f):=by
 cases hw:PL p f.name with
 | none =>
   exfalso;unfold PL at hw;rw [h,cond_true] at hw;cases hq:p.procs.find? (fun g=>g.name==f.name) with
   | none =>
     have:=List.find?_eq_none.1 hq _ hf;simp at this
   | some g=>rw [hq] at hw;cases hw
 | some w =>
   obtain ⟨k,g,hkj,rfl,_,hgn,_⟩:=DV hw;have he:g=f:=LL (LZ h) g (List.mem_of_getElem? hkj) f hf hgn;subst he;exact ⟨k,hkj,rfl⟩
theorem z2b {p:Pg} (h:ZF p=true) {id:Int} (hid:id∈x6c p 0) : ∃ k f t,p.procs[k]? = some f∧t∈flL f.body∧t.id=id∧PL p (UM p id).2.1=some (QR p k f):=by
 have hm:=(QP h).1;unfold x6c at hid;obtain ⟨x,hx,rfl⟩:=List.mem_map.1 hid;have hx:=(List.mem_filter.1 hx).1;rw [q4z hm] at hx;obtain ⟨g,hg,hxg⟩:=List.mem_flatMap.1 hx;rw [<- DX hm hg] at hxg;unfold UM;cases hr:q3v p x.s.id with
 | none =>
   exfalso;unfold q3v at hr;have h1:=List.findSome?_eq_none_iff.1 hr g hg;unfold q9j at h1;rw [Option.map_eq_none_iff,List.find?_eq_none] at h1;exact h1 x hxg (by simp)
 | some y =>
   obtain ⟨y,nm⟩:=y;unfold q3v at hr;obtain ⟨f,hf,h1⟩:=List.exists_of_findSome?_eq_some hr;unfold q9j at h1;rw [Option.map_eq_some_iff] at h1;obtain ⟨z,h2,h3⟩:=h1;obtain rfl:z=y:=congrArg Prod.fst h3;have hnm:f.name=nm:=congrArg Prod.snd h3;obtain ⟨k,hk,hw⟩:=x2d h hf;refine ⟨k,f,z.s,hk,z5p h hk (List.mem_of_find?_eq_some h2),by simpa using List.find?_some h2,?_⟩;show PL p nm=_;rw [<- hnm];exact hw
theorem x8k {p:Pg} (h:ZF p=true) {id:Int} (h1:1<=id) (h2:id<=(sheetOf p).l.length) : ∃ k f it,p.procs[k]? = some f∧it∈itsOf p k f∧it.s.id=id∧PL p (UM p id).2.1=some (QR p k f)∧(UM p id).2.2=true∧x7j p id=(it.next,true):=by
 obtain ⟨_,_,_,hlen,_⟩:=QU p;obtain ⟨j,f,hj,h3,h4⟩:=x1r p.procs (id-1).toNat (by omega);obtain ⟨it,h5,h6⟩:=YT hj h3 h4;have h7:=q5u h hj h3 h4 h5;have h8:it.s.id=id:=by omega
 have hm:=(QP h).1;obtain ⟨x,hx,hxs⟩:=z2c (DE h6);have hid:id∈x6c p 0:=by
  unfold x6c;refine List.mem_map.2 ⟨x,List.mem_filter.2 ⟨?_,rfl⟩,by rw [hxs,h8]⟩;rw [q4z hm];exact List.mem_flatMap.2 ⟨f,List.mem_of_getElem? hj,hx⟩
 obtain ⟨k,g,t,hk,ht,hti,hw⟩:=z2b h hid;have hb:=UX hm hk ht;have hbl:QT p.procs k+QF g.body<=(sheetOf p).l.length:=by
  obtain ⟨_,_,_,_,hsp⟩:=QU p;have:=(hsp k g hk).2.2.1;omega
 obtain ⟨it2,h9,h10⟩:=YT hk (k:=(id-1).toNat) (by omega) (by omega);rw [h5] at h9;obtain rfl:=Option.some.inj h9;refine ⟨k,g,it,hk,h10,h8,hw,?_,?_⟩
 ·cases ho:(UM p id).2.2 with
  | true=>rfl
  | false =>
    exfalso;unfold UM at ho;cases hr:q3v p id with
    | some y=>rw [hr] at ho;cases ho
    | none =>
      unfold q3v at hr;have h11:=List.findSome?_eq_none_iff.1 hr f (List.mem_of_getElem? hj);unfold q9j at h11;rw [Option.map_eq_none_iff,List.find?_eq_none] at h11;rw [DX hm (List.mem_of_getElem? hj)] at h11;exact h11 x hx (by rw [hxs,h8];simp)
 ·unfold x7j;rw [h,h5,decide_eq_true h1,decide_eq_true h2];rfl
theorem x1u {p:Pg} {n:Str} {w:Way} (h:PL p n=some w):ofR p n=w.real:=by
 unfold ofR;rw [h]
theorem z0n {p:Pg} {n:Str} (h:PL p n=none):ofR p n=[]:=by
 unfold ofR;rw [h]
theorem z2r {p:Pg} (h:ZF p=true) {j:Nat} {f:Pr} (hj:p.procs[j]? = some f) {y:Int}:y∈q5k (QR p j f)↔0<y∧Rch (wR p j f) 0 y:=by
 have hn:(QR p j f).n=(QF f.body+2:Nat):=rfl;have hpl : ∀ i:Nat,1<=i->i<=QF f.body->UI p j (QF f.body+2:Nat) i=QT p.procs j+i:=fun i h1 h2=>by
  unfold UI loI;rw [if_neg (by omega),if_neg (by omega)];omega
 have hix : ∀ i:Nat,1<=i->i<=QF f.body->(ixI p j f (QT p.procs j+i)).toNat=i:=fun i h1 h2=>by
  unfold ixI JH loI hiI
  (repeat' split)<;>omega
 unfold q5k;rw [List.mem_map];constructor
 ·rintro ⟨i,hi,rfl⟩;obtain ⟨h1,h2⟩:=List.mem_filter.1 hi;rw [hn] at h1;have h3:=List.mem_range'_1.1 h1;have e1:=hpl i (by omega) (by omega);have e2:=hix i (by omega) (by omega);show 0<UI p j (QF f.body+2:Nat) i∧Rch (wR p j f) 0 (UI p j (QF f.body+2:Nat) i);rw [e1];refine ⟨by omega,(x1m h hj (.inr (.inr ⟨by omega,by omega⟩))).1 ?_⟩;rw [e2];exact h2
 ·rintro ⟨h0,h1⟩;have hp:plP p j f y:=by
   cases h1 with
   | refl=>exact .inl rfl
   | tail _ h2 =>
     obtain ⟨t,ht,_,rfl⟩:=h2;exact (HY h hj t ht).2
  have h2:=(x1m h hj hp).2 h1;rcases hp with hp|hp|⟨h3,h4⟩
  ·omega
  ·omega
  obtain ⟨i,hi⟩ : ∃ i:Nat,y=QT p.procs j+i:=⟨(y-QT p.procs j).toNat,by omega⟩;subst hi;rw [hix i (by omega) (by omega)] at h2;refine ⟨i,List.mem_filter.2 ⟨List.mem_range'_1.2 ⟨by omega,?_⟩,h2⟩,hpl i (by omega) (by omega)⟩;rw [hn];omega
theorem z1s {p:Pg} {j:Nat} {f:Pr}:(q5k (QR p j f)).Pairwise ordP:=by
 have hn:(QR p j f).n=(QF f.body+2:Nat):=rfl;unfold q5k;rw [List.pairwise_map];have h1:((List.range' 1 ((QR p j f).n-2).toNat).filter fun i=>(QR p j f).live.getD i false).Pairwise fun a b=>a<b:=List.Pairwise.sublist List.filter_sublist List.pairwise_lt_range';refine h1.imp_of_mem fun {a b} ha hb hab => ?_;have h2:=List.mem_range'_1.1 (List.mem_filter.1 ha).1;have h3:=List.mem_range'_1.1 (List.mem_filter.1 hb).1;rw [hn] at h2 h3;rw [z2f];right;show UI p j (QF f.body+2:Nat) a ≠ -1∧UI p j (QF f.body+2:Nat) b ≠ -1∧UI p j (QF f.body+2:Nat) a<UI p j (QF f.body+2:Nat) b;unfold UI loI
 (repeat' split)<;>omega
theorem z0v (p:Pg) (n:Str):(DO p n).Pairwise ordP ∧ ∀ y,y∈DO p n↔0<y∧Rch (stR (ofR p n)) 0 y:=by
 cases hw:PL p n with
 | none =>
   have e:DO p n=[]:=by unfold DO;rw [hw]
   rw [e,z0n hw];refine ⟨.nil,fun y=>⟨fun h=>(by cases h),fun ⟨h0,h1⟩ => ?_⟩⟩;cases h1 with
   | refl=>omega
   | tail _ h2=>obtain ⟨t,ht,_⟩:=h2;cases ht
 | some w =>
   obtain ⟨k,f,hk,rfl,hc,_⟩:=DV hw;have e:DO p n=q5k (QR p k f):=by unfold DO;rw [hw]
   rw [e,x1u hw];exact ⟨z1s,fun y=>z2r hc hk⟩
section
variable {p:Pg} {j:Nat} {f:Pr}
end
section
variable {p:Pg} {j:Nat} {f:Pr}
theorem z6f {x:RI} (hx:x∈flatU f):x.s∈flL f.body:=by
 rw [<- show (flatU f).map RI.s=flL f.body from q8p 1 0 false f.body];exact List.mem_map.2 ⟨x,hx,rfl⟩
end
def prA (p:Pg) (i:Nat):Pr:=p.procs.getD i Pr0
theorem z3y {p:Pg} {i:Nat} (h:i<p.procs.length):p.procs[i]? = some (prA p i):=by
 unfold prA;rw [getD_eq_getElem?_getD,List.getElem?_eq_getElem h];rfl
theorem q1t {p:Pg} {i:Nat} {f:Pr} (h:p.procs[i]? = some f):prA p i=f:=by
 unfold prA;rw [getD_eq_getElem?_getD,h];rfl
theorem x2i {p:Pg} (h:ZF p=true) (i:Nat):(prA p i).params.length<=8:=by
 rcases Nat.lt_or_ge i p.procs.length with h1|h1
 ·exact (KU.1 (x8y (QP h).1 (List.mem_of_getElem? (z3y h1)))).1
 ·unfold prA;rw [getD_eq_getElem?_getD,List.getElem?_eq_none h1];decide
theorem x2t {p:Pg} (h:ZF p=true) {t:S} (ht:t∈GK p) (h4:t.kind=4) : ∃ k,k<p.procs.length∧caI p t=(k:Nat)∧caP p t=prA p k∧(prA p k).name=t.proc∧(prA p k).params.map Param.ref=t.args.map Arg.ref:=by
 obtain ⟨_,hs,ha,_⟩:=QP h;have hf:=(x6w hs).1 ha t ht h4;unfold KZ at hf;rw [Bool.and_eq_true] at hf;have hf2:=hf.2;cases hq:p.procs.find? (fun f=>f.name==t.proc) with
 | none=>rw [hq] at hf2;cases hf2
 | some f =>
   rw [hq] at hf2;have hn:t.proc∈QD p:=List.mem_map.2 ⟨f,List.mem_of_find?_eq_some hq,by simpa using List.find?_some hq⟩;obtain ⟨k,hk,h1,_,h3,h5⟩:=MW hn;rw [hq] at h3;have hkf:p.procs[k]=f:=(Option.some.inj h3).symm;have hp:prA p k=f:=by rw [<- hkf];exact q1t (List.getElem?_eq_getElem hk)
   have hci:caI p t=(k:Nat):=h1;refine ⟨k,hk,hci,?_,?_,?_⟩
   ·unfold caP;rw [hci];rfl
   ·rw [hp,<- hkf];exact h5
   ·rw [hp];unfold x4l at hf2;exact of_decide_eq_true hf2
section
variable (p:Pg) (i:Nat) (f:Pr) (D U:List (List Str)) (o:List Str) (x:Str)
end
section
variable {p:Pg} {i:Nat} {f:Pr} {D U:List (List Str)} {o:List Str} {x:Str}
variable {n:Nat} {seen:List Bool} {todo:List Int} {a:Int}
end
theorem z1q {p:Pg} {f:Pr} {n:Str} (h:NJ p f n≠0):n∈p.globals∨n∈q0m f:=by
 unfold NJ at h;unfold q0m;cases hq:f.params.find? (fun a=>a.name==n) with
 | some a =>
   refine .inr (List.mem_append_left _ (List.mem_map.2 ⟨a,List.mem_of_find?_eq_some hq,by simpa using List.find?_some hq⟩))
 | none =>
   rw [hq] at h;cases hv:f.vars.any (fun s=>n==s) with
   | true =>
     obtain ⟨s,h1,h2⟩:=List.any_eq_true.1 hv;exact .inr (List.mem_append_right _ (by rw [eq_of_beq h2];exact h1))
   | false =>
     cases hg:p.globals.any (fun s=>n==s) with
     | true =>
       obtain ⟨s,h1,h2⟩:=List.any_eq_true.1 hg;exact .inl (by rw [eq_of_beq h2];exact h1)
     | false=>exact absurd (by simp only [hv,hg];rfl) h
section
variable {p:Pg} {j:Nat} {f:Pr}
end
inductive Cf
 | next (a:Int) (M:Mc)
 | back (gave:Int) (M:Mc)
 | fin (M:Mc)
def XS (M:Mc):Fm:=M.stack.getLast?.getD ⟨0,[],[],0⟩
def x9s (r:Int×Mc):Cf:=if r.2.fin=0 then .next r.1 r.2 else .fin r.2
def x2k (r:Int×Mc):Cf:=if r.2.fin=0 then .back r.1 r.2 else .fin r.2
def VW (M:Mc):Mc:={ M with steps:=M.steps+1 }
def NQ (p:Pg) (t:S):Nat:=(idxF (fun g=>g.name==t.proc) p.procs).toNat
def stI (p:Pg) (tape watch:List Int) (M:Mc) (it:Item):Cf :=
 if it.s.kind=4 then x9s (JN p watch M (XS M) it.s (NQ p it.s) (prA p (NQ p it.s)))
 else if it.s.kind=9 then x2k (x2s watch M (XS M) it.s)
 else x9s (doM p tape watch M (XS M) (prA p (XS M).proc) it)
def GM (p:Pg) (gave:Int) (M:Mc):Cf :=
 if (XS M).call=0 then .fin (endM (popM M M.stack.dropLast) 1)
 else match (sheetOf p).l[((XS M).call-1).toNat]? with
 | none => .fin M
 | some it => .next it.next (if it.s.name=[] then popM M M.stack.dropLast else setM (popM M M.stack.dropLast) (varM (XS (popM M M.stack.dropLast)) it.s.name) gave)
def goC (p:Pg) (tape watch:List Int) (fuel:Int):Cf->Cf
 | .next a M=>if a = -1 then .back 0 M else if M.steps=fuel then .fin (endM M 2) else match (sheetOf p).l[(a-1).toNat]? with
   | none => .fin M
   | some it=>stI p tape watch (VW M) it
 | .back g M=>GM p g M
 | .fin M => .fin M
def q0q (p:Pg) (tape watch:List Int) (fuel:Int):Nat->Cf->Cf
 | 0,c=>c
 | n+1,c=>goC p tape watch fuel (q0q p tape watch fuel n c)
structure FrameOk (p:Pg) (M:Mc) (f:Fm):Prop where
 pr : ∃ g,p.procs[f.proc]? = some g∧f.names=varsS p g
 len:f.vars.length=f.names.length
 rng : ∀ v∈f.vars,v<M.mem.length
inductive Chain (p:Pg):List Fm->Prop
 | one {f:Fm} (h:f.call=0):Chain p [f]
 | push {l:List Fm} {g f:Fm} {q:Pr} {it:Item} (hl:Chain p (l++[g])) (h1:1<=f.call) (hle:f.call<=100000) (hit:(sheetOf p).l[(f.call-1).toNat]? = some it) (hk:it.s.kind=4) (hp:p.procs[g.proc]? = some q) (hi:it∈itsOf p g.proc q) (hid:it.s.id=f.call):Chain p (l++[g]++[f])
structure Good (p:Pg) (M:Mc) (b:Int):Prop where
 ch:Chain p M.stack
 fr : ∀ f∈M.stack,FrameOk p M f
 gl:p.globals.length<=M.mem.length
 sl:M.stack.length<=101
 fin:M.fin=0
 r0:0<=M.reads
 rd:M.reads<=b
 tr:(M.trace.length:Int)<=b
 ou:(M.out.length:Int)<=b
def AtOk (p:Pg) (a:Int) (k:Nat):Prop:=a = -1 ∨ ∃ g it,p.procs[k]? = some g∧1<=a∧(sheetOf p).l[(a-1).toNat]? = some it∧it∈itsOf p k g∧it.s.id=a
def PO (p:Pg) (fuel:Int):Cf->Prop
 | .next a M=>Good p M M.steps∧0<=M.steps∧M.steps<=fuel∧AtOk p a (XS M).proc
 | .back _ M=>Good p M M.steps∧0<=M.steps∧M.steps<=fuel
 | .fin _=>True
def cfμ (fuel:Int):Cf->Nat
 | .next _ M=>6*(fuel-M.steps).toNat+2*M.stack.length+2
 | .back _ M=>6*(fuel-M.steps).toNat+2*M.stack.length+1
 | .fin _=>0
theorem Chain.ne {p:Pg} {l:List Fm} (h:Chain p l) : ∃ st f,l=st++[f]:=by
 cases h with
 | one h=>exact ⟨[],_,rfl⟩
 | push=>exact ⟨_,_,rfl⟩
theorem q3e {M:Mc} {st:List Fm} {f:Fm} (h:M.stack=st++[f]):XS M=f:=by
 unfold XS;rw [h,List.getLast?_concat];rfl
theorem Good.top {p:Pg} {M:Mc} {b:Int} (h:Good p M b) : ∃ st,M.stack=st++[XS M]:=by
 obtain ⟨st,f,e⟩:=h.ch.ne;exact ⟨st,by rw [q3e e];exact e⟩
theorem q6h {M M':Mc} (h:M'.stack=M.stack):XS M'=XS M:=by unfold XS;rw [h]
theorem x8b {p:Pg} (hc:ZF p=true) {k:Nat} {g:Pr} (hk:p.procs[k]? = some g):(varsS p g).length<=100:=by
 have h1:=(UJ hc).1;have h2:=(KH (QP hc).1).pr g (List.mem_of_getElem? hk);unfold varsS q0m;simp only [length_append,length_map];omega
theorem Good.okM {p:Pg} {M:Mc} {b:Int} (hc:ZF p=true) (h:Good p M b) {bs:List Nat} (hb:bs.length=M.mem.length):OkM p bs M :=
 ⟨hb,fun f hf=>⟨(h.fr f hf).len,(h.fr f hf).rng⟩,h.gl,Nat.le_trans h.sl (by decide),fun f hf=>by
   obtain ⟨g,h1,h2⟩:=(h.fr f hf).pr;have:=x8b hc h1;rw [h2];omega⟩
theorem Good.same {p:Pg} {M M':Mc} {b b':Int} (h:Good p M b) (hs:M'.stack=M.stack) (hm:M.mem.length<=M'.mem.length) (hf:M'.fin=0) (h0:0<=M'.reads) (h1:M'.reads<=b') (h2:(M'.trace.length:Int)<=b') (h3:(M'.out.length:Int)<=b'):Good p M' b' :=
 ⟨by rw [hs];exact h.ch,fun f hq=>by
   rw [hs] at hq;exact ⟨(h.fr f hq).pr,(h.fr f hq).len,fun v hv=>Nat.lt_of_lt_of_le ((h.fr f hq).rng v hv) hm⟩,Nat.le_trans h.gl hm,by rw [hs];exact h.sl,hf,h0,h1,h2,h3⟩
theorem VV (w:List Int) (M:Mc) (id:Int) (v:List Int):(QK w M id v).stack=M.stack∧(QK w M id v).mem=M.mem∧(QK w M id v).fin=M.fin∧(QK w M id v).steps=M.steps∧(QK w M id v).reads=M.reads∧(QK w M id v).out=M.out∧(QK w M id v).trace.length<=M.trace.length+1:=by
 refine ⟨q3l,q2v,?_,?_,?_,z3d,z1u⟩<;>(unfold QK;cases w.any fun x=>decide (id=x)<;>rfl)
theorem Good.event {p:Pg} {M:Mc} {b:Int} (h:Good p M b) (w:List Int) (id:Int) (v:List Int):Good p (QK w M id v) (b+1):=by
 obtain ⟨e1,e2,e3,e4,e5,e6,e7⟩:=VV w M id v;have:=h.tr;have:=h.ou;have:=h.rd;exact h.same e1 (by rw [e2];exact Nat.le_refl _) (e3.trans h.fin) (by rw [e5];exact h.r0) (by rw [e5];omega) (by omega) (by rw [e6];omega)
section
variable {p:Pg}
theorem AtOk.of (hc:ZF p=true) {k:Nat} {g:Pr} (hk:p.procs[k]? = some g) {a:Int} (h:okI (QT p.procs k) (QT p.procs k+QF g.body) a):AtOk p a k:=by
 rcases h with h|⟨h1,h2⟩
 ·exact .inl h
 ·obtain ⟨it,h3,h4⟩:=YT hk (k:=(a-1).toNat) (by omega) (by omega);have h5:=q5u hc hk (by omega) (by omega) h3;exact .inr ⟨g,it,hk,by omega,h3,h4,by omega⟩
theorem x2j (hc:ZF p=true) {k:Nat} {g:Pr} (hk:p.procs[k]? = some g) {t:S} (ht:t∈flL g.body) {n:Str} (hn:n∈ZQ t):n∈varsS p g:=by
 have h1:=JE (QP hc).2.1 (List.mem_of_getElem? hk) ht;unfold UE at h1;rw [Bool.and_eq_true] at h1;have h2:=List.all_eq_true.1 h1.1 n hn;have h3:NJ p g n≠0:=by simpa using h2
 unfold varsS;rcases z1q h3 with h|h
 ·exact List.mem_append_left _ h
 ·exact List.mem_append_right _ h
theorem q9n {l:List Str} {n:Str} (h:n∈l):0<=idxF (fun y=>n==y) l:=by
 unfold idxF;have:l.any (fun y=>n==y)=true:=List.any_eq_true.2 ⟨n,h,by simp⟩;rw [this,cond_true];omega
theorem z3u {t:S} (h1:t.kind≠10) (h2:t.name≠[]):t.name∈ZQ t:=by
 unfold ZQ GF;have:(decide (t.kind≠10) && !(t.name==[]))=true:=by simp [h1,h2]
 rw [this];simp
theorem z5q {t:S} {a:Arg} (ha:a∈t.args) (hr:a.ref=true):a.name∈ZQ t:=by
 unfold ZQ;refine List.mem_append_right _ (List.mem_flatMap.2 ⟨a,ha,?_⟩);unfold YN;rw [hr];simp
theorem z1y {f:Fm} (hl:f.vars.length=f.names.length) {n:Str} (h:n∈f.names):varM f n∈f.vars:=by
 have h1:=LK (q9n h);unfold varM;rw [getD_eq_getElem?_getD,List.getElem?_eq_getElem (by omega)];exact List.getElem_mem _
end
theorem q4o {f:Fm} : ∀ (l:List Arg) (ps:List Nat) (M:Mc),(∀ a∈l,a.ref=true->varM f a.name<M.mem.length)->(∀ v∈ps,v<M.mem.length) ->
  (argsM f l ps M).2.1.stack=M.stack∧M.mem.length<=(argsM f l ps M).2.1.mem.length∧(argsM f l ps M).2.1.steps=M.steps∧(argsM f l ps M).2.1.reads=M.reads∧(argsM f l ps M).2.1.out=M.out∧(argsM f l ps M).2.1.trace=M.trace ∧
  ((argsM f l ps M).2.2=true->(argsM f l ps M).2.1.fin=M.fin∧(argsM f l ps M).1.length=ps.length+l.length ∧ ∀ v∈(argsM f l ps M).1,v<(argsM f l ps M).2.1.mem.length)∧((argsM f l ps M).2.2=false->(argsM f l ps M).2.1.fin=4)
 | [],ps,M,_,hp=>⟨rfl,Nat.le_refl _,rfl,rfl,rfl,rfl,fun _=>⟨rfl,rfl,hp⟩,(fun h=>(by cases h))⟩
 | a::r,ps,M,ha,hp=>by
   rw [argsM];cases hr:a.ref with
   | true =>
     rw [cond_true];obtain ⟨h1,h2,h3,h4,h5,h6,h7,h8⟩:=q4o r (ps++[varM f a.name]) M (fun b hb=>ha b (List.mem_cons_of_mem _ hb)) fun v hv=>by
      rcases List.mem_append.1 hv with hv|hv
      ·exact hp v hv
      ·rw [List.mem_singleton.1 hv];exact ha a mem_cons_self hr
     refine ⟨h1,h2,h3,h4,h5,h6,fun h => ?_,h8⟩;obtain ⟨g1,g2,g3⟩:=h7 h;exact ⟨g1,by rw [g2,length_append,length_cons,length_cons,length_nil];omega,g3⟩
   | false =>
     rw [cond_false];cases hw:(QA M f a.x).2 with
     | false=>exact ⟨rfl,Nat.le_refl _,rfl,rfl,rfl,rfl,(fun h=>(by cases h)),fun _=>rfl⟩
     | true =>
       rw [cond_true];have hml:({ M with mem:=M.mem++[(QA M f a.x).1] }:Mc).mem.length=M.mem.length+1:=by simp
       obtain ⟨h1,h2,h3,h4,h5,h6,h7,h8⟩:=q4o (f:=f) r (ps++[M.mem.length]) { M with mem:=M.mem++[(QA M f a.x).1] } (fun b hb h=>by
         have:=ha b (List.mem_cons_of_mem _ hb) h;rw [hml];omega) fun v hv=>by
        rw [hml];rcases List.mem_append.1 hv with hv|hv
        ·have:=hp v hv;omega
        ·rw [List.mem_singleton.1 hv];omega
       rw [hml] at h2;refine ⟨h1,by omega,h3,h4,h5,h6,fun h => ?_,h8⟩;obtain ⟨g1,g2,g3⟩:=h7 h;exact ⟨g1,by rw [g2,length_append,length_cons,length_cons,length_nil];omega,g3⟩
section
variable {p:Pg} (hc:ZF p=true)
include hc
theorem q3a {M:Mc} {b:Int} (hG:Good p M b) {g:Pr} (hk:p.procs[(XS M).proc]? = some g) {t:S} (ht:t∈flL g.body) {n:Str} (hn:n∈ZQ t):0<=idxF (fun y=>n==y) (XS M).names∧varM (XS M) n<M.mem.length:=by
 obtain ⟨st,hs⟩:=hG.top;have hF:=hG.fr (XS M) (by rw [hs];exact List.mem_append_right _ (List.mem_singleton.2 rfl));obtain ⟨g',h1,h2⟩:=hF.pr;rw [hk] at h1;cases h1;have h3:=x2j hc hk ht hn;rw [<- h2] at h3;exact ⟨q9n h3,hF.rng _ (z1y hF.len h3)⟩
theorem x7g {k:Nat} {g:Pr} (hk:p.procs[k]? = some g) {t:S} (ht:t∈flL g.body) (h4:t.kind=4):idxF (fun g=>g.name==t.proc) p.procs=(NQ p t:Nat)∧p.procs[NQ p t]? = some (prA p (NQ p t))∧(prA p (NQ p t)).params.length=t.args.length:=by
 obtain ⟨k',h1,h2,_,_,h5⟩:=x2t hc (List.mem_flatMap.2 ⟨g,List.mem_of_getElem? hk,ht⟩) h4;have e:NQ p t=k':=by
  unfold NQ;show (caI p t).toNat=k';rw [h2];rfl
 refine ⟨by rw [e];exact h2,by rw [e];exact z3y h1,?_⟩;rw [e];have:=congrArg List.length h5;simpa using this
theorem x6u {M:Mc} {b:Int} (hfr : ∀ f∈M.stack,FrameOk p M f) (hgl:p.globals.length<=M.mem.length) (hfin:M.fin=0) (hr0:0<=M.reads) (hrd:M.reads<=b) (htr:(M.trace.length:Int)<=b) (hou:(M.out.length:Int)<=b) (hsl:M.stack.length<=100) {k:Nat} {g:Pr} (hk:p.procs[k]? = some g) {ps:List Nat} (hpl:ps.length=g.params.length) (hpr : ∀ v∈ps,v<M.mem.length) {call:Int}
  (hch:Chain p (M.stack++[⟨k,varsS p g,List.range p.globals.length++ps++List.range' M.mem.length g.vars.length,call⟩])):Good p (YF p k g ps call M) b∧AtOk p (q0e p k g) (XS (YF p k g ps call M)).proc∧(YF p k g ps call M).stack.length=M.stack.length+1:=by
 have hml:(YF p k g ps call M).mem.length=M.mem.length+g.vars.length:=by unfold YF;simp
 refine ⟨⟨hch,fun f hf => ?_,by rw [hml];have:=hgl;omega,by unfold YF;simp;omega,hfin,hr0,hrd,htr,hou⟩,?_,by unfold YF;simp⟩
 ·rcases List.mem_append.1 hf with hf|hf
  ·exact ⟨(hfr f hf).pr,(hfr f hf).len,fun v hv=>by have:=(hfr f hf).rng v hv;rw [hml];omega⟩
  ·rw [List.mem_singleton.1 hf];refine ⟨⟨g,hk,rfl⟩,?_,fun v hv => ?_⟩
   ·show (List.range p.globals.length++ps++List.range' M.mem.length g.vars.length).length=(varsS p g).length;unfold varsS q0m;simp only [length_append,List.length_range,List.length_range',length_map];omega
   ·have hv:v∈List.range p.globals.length++ps++List.range' M.mem.length g.vars.length:=hv;rw [hml];rcases List.mem_append.1 hv with hv|hv
    ·rcases List.mem_append.1 hv with hv|hv
     ·have:=List.mem_range.1 hv;have:=hgl;omega
     ·have:=hpr v hv;omega
    ·have:=List.mem_range'_1.1 hv;omega
 ·rw [q3e (M:=YF p k g ps call M) (st:=M.stack) rfl];refine AtOk.of hc hk ?_;unfold q0e;split
  ·exact .inr ⟨by omega,by omega⟩
  ·exact .inl rfl
theorem z5j (watch:List Int) {M:Mc} {b:Int} (hG:Good p M b) {g:Pr} (hk:p.procs[(XS M).proc]? = some g) {it:Item} (hi:it∈itsOf p (XS M).proc g) (h4:it.s.kind=4) {r:Int×Mc} (hr:r=JN p watch M (XS M) it.s (NQ p it.s) (prA p (NQ p it.s))) :
  r.2.steps=M.steps∧(r.2.fin=0->Good p r.2 (b+1)∧AtOk p r.1 (XS r.2).proc∧r.2.stack.length=M.stack.length+1):=by
 subst hr;have ht:=DE hi;obtain ⟨_,k1,k2⟩:=x7g hc hk ht h4;obtain ⟨st,hst⟩:=hG.top;obtain ⟨a1,a2,a3,a4,a5,a6,a7,a8⟩:=q4o (f:=XS M) it.s.args [] M (fun a ha hr=>(q3a hc hG hk ht (z5q ha hr)).2) (fun v hv=>by cases hv);unfold JN;generalize argsM (XS M) it.s.args [] M=ar at *
 obtain ⟨ps,M1,ok⟩:=ar;simp only at a1 a2 a3 a4 a5 a6 a7 a8 ⊢;cases ok with
 | false =>
   refine ⟨a3,fun h => ?_⟩;have h:M1.fin=0:=h;have:=a8 rfl;omega
 | true =>
   obtain ⟨b1,b2,b3⟩:=a7 rfl;rw [cond_true];split
   ·refine ⟨a3,fun h => ?_⟩;have h:(5:Int)=0:=h;cases h
   ·rename_i hsl;have hG1:Good p M1 b:=hG.same a1 a2 (b1.trans hG.fin) (by rw [a4];exact hG.r0) (by rw [a4];exact hG.rd) (by rw [a6];exact hG.tr) (by rw [a5];exact hG.ou);have hG2:=hG1.event watch it.s.id [];obtain ⟨e1,e2,e3,e4,e5,e6,e7⟩:=VV watch M1 it.s.id [];have hid:=UX (QP hc).1 hk ht;have hcn:=(UJ hc).2.2;have hle:=((QU p).2.2.2.2 _ _ hk).2.2.1;have hop:=x6u hc hG2.fr hG2.gl hG2.fin hG2.r0 hG2.rd hG2.tr hG2.ou (by rw [e1];omega) k1 (ps:=ps) (by rw [b2,k2];simp) (fun v hv=>by rw [e2];exact b3 v hv) (call:=it.s.id) (by
     rw [e1,a1,hst];exact .push (it:=it) (hst▸hG.ch) (by show 1<=it.s.id;omega) (by show it.s.id<=100000;omega) (z1i hc hk hi) h4 hk hi rfl)
    refine ⟨?_,fun _=>⟨hop.1,hop.2.1,?_⟩⟩
    ·show (QK watch M1 it.s.id []).steps=M.steps;rw [e4,a3]
    ·rw [<- a1,<- e1];exact hop.2.2
omit hc in
theorem z3t (watch:List Int) {M:Mc} {b:Int} (hG:Good p M b) (t:S) {r:Int×Mc} (hr:r=x2s watch M (XS M) t):r.2.steps=M.steps∧(r.2.fin=0->Good p r.2 (b+1)∧r.2.stack=M.stack):=by
 subst hr;have he:=fun v=>VV watch M t.id v;unfold x2s;cases t.has with
 | false=>exact ⟨(he []).2.2.2.1,fun _=>⟨hG.event watch t.id [],(he []).1⟩⟩
 | true =>
   rw [cond_true];cases hw:(QA M (XS M) t.x).2 with
   | false =>
     refine ⟨rfl,fun h => ?_⟩;have h:(4:Int)=0:=h;cases h
   | true=>exact ⟨(he _).2.2.2.1,fun _=>⟨hG.event watch t.id _,(he _).1⟩⟩
omit hc in
theorem x6k (tape watch:List Int) {M:Mc} {f:Fm} {g:Pr} {it:Item} (h4:it.s.kind≠4) (h9:it.s.kind≠9) {r:Int×Mc} (hr:r=doM p tape watch M f g it) (h0:r.2.fin=0):r.1∈VZ (sheetOf p) g it:=by
 subst hr;unfold doM at h0 ⊢;unfold VZ;by_cases h7:it.s.kind=7
 ·simp [h7]
 by_cases h8:it.s.kind=8
 ·simp [h8]
 by_cases h10:it.s.kind=10
 ·simp [h10]
 simp only [if_neg h7,if_neg h8,if_neg h10,if_neg h9] at h0 ⊢;by_cases h2:it.s.kind=2
 ·have h5 : ¬it.s.kind=5:=by omega
  have h6 : ¬it.s.kind=6:=by omega
  simp only [if_pos h2,if_neg h5,if_neg h6] at h0 ⊢;split at h0
  ·have h0:(3:Int)=0:=h0;cases h0
  ·rename_i h;rw [if_neg h];exact mem_cons_self
 simp only [if_neg h2] at h0 ⊢;cases hw:(QA M f it.s.x).2 with
 | false =>
   rw [hw] at h0;have h0:(4:Int)=0:=h0;cases h0
 | true =>
   clear h0;simp only [cond_true];by_cases h5:it.s.kind=5
   ·have h1 : ¬it.s.kind=1:=by omega
    have h3 : ¬it.s.kind=3:=by omega
    simp only [if_neg h1,if_neg h3,if_pos h5];split<;>simp
   by_cases h6:it.s.kind=6
   ·have h1 : ¬it.s.kind=1:=by omega
    have h3 : ¬it.s.kind=3:=by omega
    simp only [if_neg h1,if_neg h3,if_neg h5,if_pos h6];split<;>simp
   simp only [if_neg h5,if_neg h6];split
   ·exact mem_cons_self
   split
   ·exact mem_cons_self
   ·exact mem_cons_self
theorem z6k (tape watch:List Int) {M:Mc} {b:Int} (hG:Good p M b) {g:Pr} (hk:p.procs[(XS M).proc]? = some g) {it:Item} (hi:it∈itsOf p (XS M).proc g) (h4:it.s.kind≠4) (h9:it.s.kind≠9) {r:Int×Mc} (hr:r=doM p tape watch M (XS M) g it) :
  r.2.steps=M.steps∧(r.2.fin=0->Good p r.2 (b+1)∧AtOk p r.1 (XS M).proc∧r.2.stack=M.stack):=by
 have hgo:=x6k (p:=p) tape watch (M:=M) (f:=XS M) (g:=g) h4 h9 hr;have hat:r.2.fin=0->AtOk p r.1 (XS M).proc:=fun h0=>AtOk.of hc hk ((DR hc hk).2.1 _ (z3o hi (hgo h0))).2
 suffices h:r.2.steps=M.steps∧(r.2.fin=0->Good p r.2 (b+1)∧r.2.stack=M.stack) from ⟨h.1,fun h0=>⟨(h.2 h0).1,hat h0,(h.2 h0).2⟩⟩
 clear hgo hat;subst hr;have he:=fun v=>VV watch M it.s.id v;have key : ∀ (a:Int) v,(QK watch M it.s.id v).steps=M.steps∧((QK watch M it.s.id v).fin=0->Good p (QK watch M it.s.id v) (b+1)∧(QK watch M it.s.id v).stack=M.stack):=fun _ v=>⟨(he v).2.2.2.1,fun _=>⟨hG.event watch it.s.id v,(he v).1⟩⟩;unfold doM;by_cases h7:it.s.kind=7
 ·rw [if_pos h7];exact key 0 []
 by_cases h8:it.s.kind=8
 ·rw [if_neg h7,if_pos h8];exact key 0 []
 by_cases h10:it.s.kind=10
 ·rw [if_neg h7,if_neg h8,if_pos h10];exact key 0 []
 rw [if_neg h7,if_neg h8,if_neg h10];by_cases h2:it.s.kind=2
 ·rw [if_pos h2];split
  ·refine ⟨rfl,fun h => ?_⟩;have h:(3:Int)=0:=h;cases h
  ·generalize varM (XS M) it.s.name=v;generalize tape.getD M.reads.toNat 0=n;obtain ⟨e1,e2,e3,e4,e5,e6,e7⟩:=VV watch (setM { M with reads:=M.reads+1 } v n) it.s.id [n];refine ⟨e4,fun _=>⟨hG.same e1 (by rw [e2];unfold setM;simp) (e3.trans hG.fin) ?_ ?_ ?_ ?_,e1⟩⟩
   ·rw [e5];have:=hG.r0;show 0<=M.reads+1;omega
   ·rw [e5];have:=hG.rd;show M.reads+1<=b+1;omega
   ·have:=hG.tr;have e7:(QK watch (setM { M with reads:=M.reads+1 } v n) it.s.id [n]).trace.length<=M.trace.length+1:=e7;have e9:((QK watch (setM { M with reads:=M.reads+1 } v n) it.s.id [n]).trace.length:Int)<=b+1:=by omega
    exact e9
   ·rw [e6];have:=hG.ou;show (M.out.length:Int)<=b+1;omega
 rw [if_neg h2];cases hw:(QA M (XS M) it.s.x).2 with
 | false =>
   refine ⟨rfl,fun h => ?_⟩;have h:(4:Int)=0:=h;cases h
 | true =>
   rw [cond_true];generalize (QA M (XS M) it.s.x).1=n;by_cases h1:it.s.kind=1
   ·rw [if_pos h1];obtain ⟨e1,e2,e3,e4,e5,e6,e7⟩:=he [n];have hG1:=hG.event watch it.s.id [n];exact ⟨e4,fun _=>⟨hG1.same rfl (by unfold setM;simp) hG1.fin hG1.r0 hG1.rd hG1.tr hG1.ou,e1⟩⟩
   rw [if_neg h1];by_cases h3:it.s.kind=3
   ·rw [if_pos h3];obtain ⟨e1,e2,e3,e4,e5,e6,e7⟩:=he [n];have hG1:=hG.event watch it.s.id [n];refine ⟨e4,fun _=>⟨hG1.same rfl (Nat.le_refl _) hG1.fin hG1.r0 hG1.rd hG1.tr ?_,e1⟩⟩;show (((QK watch M it.s.id [n]).out++[n]).length:Int)<=b+1;rw [e6,length_append];have:=hG.ou;simp only [length_cons,length_nil];omega
   rw [if_neg h3];by_cases h5:it.s.kind=5
   ·rw [if_pos h5];exact key 0 [n]
   by_cases h6:it.s.kind=6
   ·rw [if_neg h5,if_pos h6];exact key 0 [n]
   rw [if_neg h5,if_neg h6];exact key 0 [n]
theorem x1f {M:Mc} {b:Int} (hG:Good p M b) {st:List Fm} (hs:M.stack=st++[XS M]) (gave:Int):(XS M).call<=100000 ∧
  ((∃ M',GM p gave M = .fin M'∧CloseP p M st (XS M) gave (-1) M'∧M'.fin=1) ∨
  ∃ a M',GM p gave M = .next a M'∧CloseP p M st (XS M) gave a M'∧Good p M' b∧AtOk p a (XS M').proc∧M'.stack.length+1=M.stack.length∧M'.steps=M.steps):=by
 have hst:M.stack.dropLast=st:=by rw [hs,List.dropLast_concat]
 have hch:=hG.ch;rw [hs] at hch;generalize hF:XS M=F at *
 unfold GM;rw [hst,hF];generalize hL:st++[F]=L at hch;cases hch with
 | one h =>
   rename_i f;obtain ⟨rfl,h2⟩:=List.append_inj' (show st++[F]=[]++[f] from hL) rfl;have h2:F=f:=by simpa using h2
   subst h2;rw [if_pos h];exact ⟨by omega,.inl ⟨_,rfl,.done h,rfl⟩⟩
 | push hl h1 hle hit hk hp hi hid =>
   rename_i l g f q it;obtain ⟨rfl,h2⟩:=List.append_inj' hL rfl;have h2:F=f:=by simpa using h2
   subst h2;have hgm:g∈M.stack:=by rw [hs];simp
   have hgF:=hG.fr g hgm;refine ⟨hle,.inr ?_⟩;rw [if_neg (by omega),hit];have htop:XS (popM M (l++[g]))=g:=q3e (st:=l) rfl;have hnx:AtOk p it.next g.proc:=AtOk.of hc hp (q3w hi).1;have hG1:Good p (popM M (l++[g])) b:=⟨hl,fun f hf=>⟨(hG.fr f (by rw [hs];exact List.mem_append_left _ hf)).pr,(hG.fr f (by rw [hs];exact List.mem_append_left _ hf)).len,(hG.fr f (by rw [hs];exact List.mem_append_left _ hf)).rng⟩,hG.gl,by
    have h:=hG.sl;rw [hs,length_append] at h;show (l++[g]).length<=101;omega,hG.fin,hG.r0,hG.rd,hG.tr,hG.ou⟩
   have hlen:(popM M (l++[g])).stack.length+1=M.stack.length:=by
    rw [hs,length_append];rfl
   by_cases hn:it.s.name=[]
   ·refine ⟨it.next,_,rfl,?_,?_⟩
    ·rw [if_pos hn];exact .drop h1 hit hn
    ·rw [if_pos hn];exact ⟨hG1,by rw [htop];exact hnx,hlen,rfl⟩
   ·obtain ⟨q',u1,u2⟩:=hgF.pr;rw [hp] at u1;cases u1;have hin:=x2j hc hp (DE hi) (z3u (by omega) hn);rw [<- u2] at hin;refine ⟨it.next,_,rfl,?_,?_⟩
    ·rw [if_neg hn,htop];exact .keep h1 hit hn rfl (q9n hin)
    ·rw [if_neg hn];refine ⟨hG1.same rfl (by unfold setM;simp) hG1.fin hG1.r0 hG1.rd hG1.tr hG1.ou,?_,hlen,rfl⟩;have e:XS (setM (popM M (l++[g])) (varM (XS (popM M (l++[g]))) it.s.name) gave)=g:=(q6h (M:=popM M (l++[g])) rfl).trans htop;rw [e];exact hnx
end
def mainN (p:Pg):Nat:=(idxF (fun f=>f.name==mainS) p.procs).toNat
def M00 (p:Pg):Mc:=⟨[],List.replicate p.globals.length 0,0,0,0,[],[]⟩
def GD (p:Pg):Cf := .next (q0e p (mainN p) (prA p (mainN p))) (YF p (mainN p) (prA p (mainN p)) [] 0 (M00 p))
theorem q6o {p:Pg} (hc:ZF p=true):idxF (fun f=>f.name==mainS) p.procs=(mainN p:Nat)∧p.procs[mainN p]? = some (prA p (mainN p))∧(prA p (mainN p)).params=[]:=by
 obtain ⟨k,f,h1,_,h3,h4⟩:=x2n hc;obtain ⟨k',hk',h5,_,_,h6⟩:=MW (p:=p) (n:=mainS) (List.mem_map.2 ⟨f,List.mem_of_getElem? h1,h3⟩);obtain ⟨rfl,h7⟩:=MQ hc h1 (List.getElem?_eq_getElem hk') (h3.trans h6.symm);have e:mainN p=k:=by unfold mainN;rw [h5];rfl
 rw [e,q1t h1];exact ⟨h5,h1,h4⟩
theorem x1n {p:Pg} (hc:ZF p=true) {fuel:Int} (h0:0<=fuel):PO p fuel (GD p):=by
 obtain ⟨h1,h2,h3⟩:=q6o hc;have h:=x6u hc (M:=M00 p) (b:=0) (fun f hf=>by cases hf) (by simp [M00]) rfl (Int.le_refl _) (Int.le_refl _) (Int.le_refl _) (Int.le_refl _) (zero_le _) h2 (ps:=[]) (by rw [h3];rfl) (fun v hv=>by cases hv) (call:=0) (.one rfl);exact ⟨h.1,Int.le_refl _,h0,h.2.1⟩
theorem FW (p:Pg) (tape watch:List Int) (fuel:Int) (n:Nat) (c:Cf):q0q p tape watch fuel (n+1) c=goC p tape watch fuel (q0q p tape watch fuel n c):=rfl
end Go.Ab
