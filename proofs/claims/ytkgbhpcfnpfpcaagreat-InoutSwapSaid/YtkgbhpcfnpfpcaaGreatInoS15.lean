/- LAW: whom a procedure calls over others; names changed for each other: all that must hold holds, it goes on in the same way. -/
import Derived.Test.YtkgbhpcfnpfpcaaGreatInoS4
import Derived.Test.YtkgbhpcfnpfpcaaGreatInoS6
import Derived.Test.YtkgbhpcfnpfpcaaGreatInoS9
import Derived.Test.YtkgbhpcfnpfpcaaGreatInoS10
import Derived.Test.YtkgbhpcfnpfpcaaGreatInoS13
import Derived.Test.YtkgbhpcfnpfpcaaGreatInoS14
set_option linter.unusedSimpArgs false
set_option linter.unusedVariables false
set_option maxRecDepth 100000
set_option maxHeartbeats 16000000
open List (getD_eq_getElem?_getD length_map map_cons mem_cons_of_mem mem_cons_self nodup_append sum_cons)
open Nat (beq zero_le)
namespace Go.Ab
open Go.Proofs
theorem x5k {l:List Str} {s:Str} (h:s∈l):s∈Go.Lib.compact l:=by
 have key : ∀ (j:Nat) (hj:j<l.length),l[j]∈Go.Lib.compact l:=fun j=>by
  induction j with
  | zero =>
    intro hj;refine List.mem_map.2 ⟨0,List.mem_filter.2 ⟨by simpa using hj,by simp [Go.Lib.keeps]⟩,?_⟩;simp [hj]
  | succ j ih =>
    intro hj;cases hk:Go.Lib.keeps l.toArray (j+1) with
    | true =>
      refine List.mem_map.2 ⟨j+1,List.mem_filter.2 ⟨by simpa using hj,hk⟩,?_⟩;simp [hj]
    | false =>
      have hj':j<l.length:=by omega
      have:l[j+1]=l[j]:=by
       unfold Go.Lib.keeps at hk;simp [hj,hj'] at hk;exact hk
      rw [this];exact ih hj'
 obtain ⟨j,hj,rfl⟩:=List.mem_iff_getElem.1 h;exact key j hj
theorem YC {l:List Str} {s:Str}:s∈Go.Lib.compact l↔s∈l:=⟨BW,x5k⟩
theorem z0k {f:Pr} {s:Str}:s∈JC f ↔ ∃ t∈flL f.body,t.kind=4∧t.proc=s:=by
 unfold JC JY;rw [YC,KU,List.mem_map];simp only [List.mem_filter,decide_eq_true_eq,and_assoc]
theorem KQ {s:Str} : ∀ (l out:List Str),s∈ZO out l↔s∈out∨s∈l
 | [],out=>by rw [ZO];simp
 | n::r,out=>by
   rw [ZO,KQ r];split
   ·rename_i h;obtain ⟨m,hm,he⟩:=List.any_eq_true.1 h;have:n=m:=by simpa using he
    subst this;constructor
    ·rintro (h|h)
     ·exact .inl h
     ·exact .inr (mem_cons_of_mem _ h)
    ·rintro (h|h)
     ·exact .inl h
     ·rcases List.mem_cons.1 h with rfl|h
      ·exact .inl hm
      ·exact .inr h
   ·simp only [List.mem_append,List.mem_cons,List.not_mem_nil,or_assoc,false_or]
theorem LD : ∀ (l out:List Str),∃ r,ZO out l=out++r
 | [],out=>⟨[],by rw [ZO];simp⟩
 | n::r,out=>by
   rw [ZO];split
   ·exact LD r out
   ·obtain ⟨r',h⟩:=LD r (out++[n]);exact ⟨n::r',by rw [h];simp⟩
theorem q3s {p:Pg} (hs:(QC p).1=0) (n:Str) : ∀ (fuel i:Nat) (out:List Str),out.Nodup->(∀ s∈out,s∈QH p)->(∀ s∈out,Rch (fun x y=>y∈VD p x) n s)->n∈out->i<=out.length->(∀ (j:Nat) (m:Str),j<i->out[j]? = some m -> ∀ y∈VD p m,y∈out)->p.procs.length+1<=fuel+i ->
  (∀ s∈UW p fuel i out,Rch (fun x y=>y∈VD p x) n s)∧n∈UW p fuel i out ∧ ∀ m∈UW p fuel i out,∀ y∈VD p m,y∈UW p fuel i out
 | 0,i,out,h1,h2,h3,h4,h5,h6,h7=>by
   have:=GV h1 h2;have hl:(QH p).length=p.procs.length:=length_map _;omega
 | fuel+1,i,out,h1,h2,h3,h4,h5,h6,h7=>by
   rw [UW];cases ho:out[i]? with
   | none =>
     have hi:out.length<=i:=List.getElem?_eq_none_iff.1 ho;refine ⟨h3,h4,fun m hm y hy => ?_⟩;have hm:m∈out:=hm;show y∈out;obtain ⟨j,hj,rfl⟩:=List.mem_iff_getElem.1 hm;exact h6 j _ (by omega) (List.getElem?_eq_getElem hj) y hy
   | some m =>
     have hi:=(List.getElem?_eq_some_iff.1 ho).1;have hm:m∈out:=List.mem_of_getElem? ho;obtain ⟨g1,g2,_⟩:=KG (VD p m) h1 h2 fun s h=>q0u hs h;obtain ⟨r,hr⟩:=LD (VD p m) out;refine q3s hs n fuel (i+1) (ZO out (VD p m)) g1 g2 (fun s h => ?_) ((KQ _ _).2 (.inl h4)) (by rw [hr,List.length_append];omega) (fun j m' hj hm' y hy => ?_) (by omega)
     ·rcases (KQ _ _).1 h with h|h
      ·exact h3 s h
      ·exact .tail (h3 m hm) h
     ·rw [hr,List.getElem?_append_left (by omega)] at hm';rcases Nat.lt_or_ge j i with h|h
      ·exact (KQ _ _).2 (.inl (h6 j m' h hm' y hy))
      ·have:j=i:=by omega
       subst this;rw [ho] at hm';cases hm';exact (KQ _ _).2 (.inr hy)
theorem w0a {p:Pg} (hs:(QC p).1=0) {n s:Str} (hn:n∈QH p):s∈z8u p n↔Rch (fun x y=>y∈VD p x) n s:=by
 obtain ⟨h1,h2,h3⟩:=q3s hs n (p.procs.length+1) 0 [n] (by simp) (by simpa using hn) (fun s h=>by rcases List.mem_singleton.1 h with rfl;exact .refl) (by simp) (zero_le _) (fun j m h=>absurd h (by omega)) (by omega);unfold z8u;rw [KU];exact ⟨h1 s,fun h=>Rch.closed (fun x y hx hy=>h3 x hx y hy) h2 h⟩
theorem x3g {p:Pg} (hs:(QC p).1=0) {n v:Str} (hn:n∈QH p):v∈YB p n ↔ ∃ m,Rch (fun x y=>y∈VD p x) n m∧v∈q3n p m:=by
 unfold YB HE;rw [YC,KU,List.mem_flatMap];simp only [w0a hs hn]
theorem x4z (a b:Str) (p:Pg) (x z:Str):z∈VD (QS a b p) (QQ a b x) ↔ ∃ y∈VD p x,z=QQ a b y:=by
 unfold VD;rw [HO];cases p.procs.find? fun f=>f.name==x with
 | none=>simp
 | some f =>
   simp only [Option.map_some,z0k,show (XH a b f).body=swL a b f.body from rfl,q0b,List.mem_map];constructor
   ·rintro ⟨_,⟨t,h1,rfl⟩,h2,rfl⟩;exact ⟨t.proc,⟨t,h1,by rw [<- h2,ZH],rfl⟩,KT a b t⟩
   ·rintro ⟨_,⟨t,h1,h2,rfl⟩,rfl⟩;exact ⟨_,⟨t,h1,rfl⟩,by rw [ZH,h2],KT a b t⟩
theorem z3b (a b:Str) (p:Pg) (n z:Str):Rch (fun x y=>y∈VD (QS a b p) x) (QQ a b n) z ↔ ∃ y,Rch (fun x y=>y∈VD p x) n y∧z=QQ a b y:=by
 constructor
 ·intro h;induction h with
  | refl=>exact ⟨n,.refl,rfl⟩
  | tail _ hr ih =>
    obtain ⟨y,h1,rfl⟩:=ih;obtain ⟨w,h2,rfl⟩:=(x4z a b p y _).1 hr;exact ⟨w,.tail h1 h2,rfl⟩
 ·rintro ⟨y,h,rfl⟩;induction h with
  | refl=>exact .refl
  | tail _ hr ih=>exact .tail ih ((x4z a b p _ _).2 ⟨_,hr,rfl⟩)
theorem x9t {a b:Str} (h:Ren a b) (p:Pg) (m:Str):q3n (QS a b p) (QQ a b m)=(q3n p m).map (QQ a b):=by
 unfold q3n;rw [HO];cases p.procs.find? fun f=>f.name==m with
 | none=>rfl
 | some f =>
   simp only [Option.map_some,show (XH a b f).body=swL a b f.body from rfl,q0b,List.flatMap_map,List.map_flatMap];congr 1;funext t;unfold z1z;rw [x4g h,List.filter_map];congr 1;apply List.filter_congr;intro v _;exact HC a b v p.globals
theorem z6y {l:List Str} {v:Str}:(l.any fun s=>v==s)=true↔v∈l:=by
 rw [List.any_eq_true];constructor
 ·rintro ⟨s,h1,h2⟩
  rwa [show v=s by simpa using h2]
 ·exact fun h=>⟨v,h,by simp⟩
theorem w0u {a b:Str} {p:Pg} {n:Str} (hn:n∈QH p):QQ a b n∈QH (QS a b p):=by
 rw [q4n];exact List.mem_map_of_mem hn
theorem z8t {a b:Str} (h:Ren a b) {p:Pg} (hs:(QC p).1=0) {n:Str} (hn:n∈QH p) (v:Str):((YB (QS a b p) (QQ a b n)).any fun s=>QQ a b v==s)=(YB p n).any fun s=>v==s:=by
 rw [Bool.eq_iff_iff,z6y,z6y,x3g (by rw [MQ h];exact hs) (w0u hn),x3g hs hn];constructor
 ·rintro ⟨m,h1,h2⟩;obtain ⟨y,h3,rfl⟩:=(z3b a b p n m).1 h1;rw [x9t h] at h2;obtain ⟨w,h4,h5⟩:=List.mem_map.1 h2;exact ⟨y,h3,by rwa [<- x2n h5]⟩
 ·rintro ⟨m,h1,h2⟩;exact ⟨_,(z3b a b p n _).2 ⟨m,h1,rfl⟩,by rw [x9t h];exact List.mem_map_of_mem h2⟩
theorem MS (a b nm:Str) {T T':List Str} (hT : ∀ v,(T'.any fun s=>QQ a b v==s)=T.any fun s=>v==s) : ∀ (l:List Arg) (seen:List Str),XN (QQ a b nm) T' (l.map (swA a b)) (seen.map (QQ a b))=XN nm T l seen
 | [],seen=>rfl
 | x::r,seen=>by
   rw [map_cons,XN,XN,show (swA a b x).ref=x.ref from rfl,show (swA a b x).name=QQ a b x.name from rfl,HC,VN,hT,MS a b nm hT r];have:=MS a b nm hT r (seen++[x.name]);rw [List.map_append] at this;rw [show [QQ a b x.name]=[x.name].map (QQ a b) from rfl,this]
theorem q4o {α:Type} {p q:α->Bool} : ∀ {l:List α},(∀ x∈l,p x=q x)->l.find? p=l.find? q
 | [],_=>rfl
 | x::r,h=>by
   rw [List.find?_cons,List.find?_cons,h x mem_cons_self,q4o fun y hy=>h y (mem_cons_of_mem _ hy)]
theorem z3w {a b:Str} (h:Ren a b) (p:Pg):GC (QS a b p)=GC p:=by
 unfold GC;rw [x3w h];by_cases ha:(WS p).1=0
 ·rw [if_neg (by omega),if_neg (by omega)];have hs:=(x7m ha).1;rw [x9v,List.find?_map];have e:(WP p).find? ((fun t:S=>decide (t.kind=4) && !XN t.name (YB (QS a b p) t.proc) t.args [])∘swS a b)=(WP p).find? fun t=>decide (t.kind=4) && !XN t.name (YB p t.proc) t.args []:=by
   refine q4o fun t ht => ?_;show (decide ((swS a b t).kind=4) && !XN (swS a b t).name (YB (QS a b p) (swS a b t).proc) (swS a b t).args [])=_;rw [ZH,KA,KT,FC];by_cases hk:t.kind=4
   ·obtain ⟨f,hf,htf⟩:=List.mem_flatMap.1 ht;have:=MS a b t.name (z8t h hs (MG hs hf htf hk).1) t.args [];rw [<- this];rfl
   ·rw [decide_eq_false hk];rfl
  rw [e];cases (WP p).find? fun t=>decide (t.kind=4) && !XN t.name (YB p t.proc) t.args [] with
  | none=>rfl
  | some t =>
    show ((8:Int),(swS a b t).id)=_;rw [HA]
 ·rw [if_pos ha,if_pos ha]
theorem q9j {a b:Str} (h:Ren a b) (p:Pg):XB (QS a b p)=XB p:=by
 unfold XB w5j;rw [z2s h,MQ h,x3w h,z9p h,z3w h]
theorem z2o (a b:Str) : ∀ (l:List Pr) (i:Nat) (acc:List Item) (lo hi:List Int),(q1z i (acc.map (swI a b)) lo hi (l.map (XH a b))).1=(q1z i acc lo hi l).1.map (swI a b)
 | [],i,acc,lo,hi=>rfl
 | f::r,i,acc,lo,hi=>by
   have e:XJ i 0 (-1) 0 (acc.map (swI a b)) (XH a b f).body=(XJ i 0 (-1) 0 acc f.body).map (swI a b):=by
    rw [KS,KS,show (XH a b f).body=swL a b f.body from rfl,q4h,List.map_append,length_map]
   rw [map_cons,q1z,q1z,e,z2o a b r,length_map,length_map]
theorem NV (a b:Str) (p:Pg):(sheetOf (QS a b p)).l=(sheetOf p).l.map (swI a b):=z2o a b p.procs 0 [] [] []
theorem z8c (a b:Str) (l:List S) (o:Int):x2q (swL a b l) o=x2q l o:=by
 cases l with
 | nil=>rw [swL]
 | cons t r=>rw [swL];exact HA a b t
theorem w0t (a b:Str) (p:Pg) (f:Pr) (it:Item):YD (sheetOf (QS a b p)) (XH a b f) (swI a b it)=YD (sheetOf p) f it:=by
 unfold YD;have e:((sheetOf (QS a b p)).l[((swI a b it).loop-1).toNat]?).map Item.next=((sheetOf p).l[(it.loop-1).toNat]?).map Item.next:=by
  rw [NV,List.getElem?_map,Option.map_map];rfl
 rw [e];unfold swI;simp only [ZH,z6k,z4m,HA,KA,z8c,w2a]
theorem x5r (a b:Str) (p:Pg) (j:Nat) (f:Pr):QG (QS a b p) j (XH a b f)=QG p j f:=by
 unfold QG;rw [show (QS a b p).procs=p.procs.map (XH a b) from rfl,LY,show (XH a b f).body=swL a b f.body from rfl,JD,q4h,List.flatMap_map];congr 2;funext it;rw [w0t,show (swI a b it).s.id=it.s.id from HA a b it.s]
theorem z5y (a b:Str) (p:Pg) (j:Nat):loI (QS a b p) j=loI p j:=by
 unfold loI;rw [show (QS a b p).procs=p.procs.map (XH a b) from rfl,LY]
theorem w2u (a b:Str) (p:Pg) (j:Nat) (f:Pr):hiI (QS a b p) j (XH a b f)=hiI p j f:=by
 unfold hiI;rw [show (QS a b p).procs=p.procs.map (XH a b) from rfl,LY,show (XH a b f).body=swL a b f.body from rfl,JD]
theorem z6w (a b:Str) (p:Pg) (j:Nat) (f:Pr) (n:Int):ixP (QS a b p) j (XH a b f) n=ixP p j f n:=by
 funext s;unfold ixP;rw [z5y,w2u]
def swW (a b:Str) (w:Way):Way:=⟨QS a b w.p,w.j,w.n,w.real,w.live⟩
theorem PI (a b:Str) (p:Pg) (j:Nat) (f:Pr):QX (QS a b p) j (XH a b f)=swW a b (QX p j f):=by
 unfold QX swW;simp only;rw [x5r,z6w,show (XH a b f).body=swL a b f.body from rfl,JD]
theorem w4i (a b:Str) (p:Pg) (id:Int):z8k (QS a b p) id=(z8k p id).map (swS a b):=by
 unfold z8k;rw [NV,List.getElem?_map,Option.map_map,Option.map_map];rfl
theorem z4u {a b:Str} (h:Ren a b) (p:Pg) (n:Int):ZK (QS a b p) n=QQ a b (ZK p n):=by
 unfold ZK;rw [show (QS a b p).procs=p.procs.map (XH a b) from rfl,length_map,List.getElem?_map];cases p.procs[(x9g n p.procs.length).toNat]? with
 | none=>exact h.nil.symm
 | some f=>rfl
theorem q3e (a b:Str) : ∀ l:List Str,x8x (l.map (QQ a b))=x8x l
 | []=>rfl
 | s::r=>by rw [map_cons,x8x,x8x,q3e a b r]
mutual
theorem w3i (a b:Str) : ∀ x:X,wX (swX a b x)=wX x
 | .mk _ _ name kids=>by rw [swX,wX,wX,w1o a b kids]
theorem w1o (a b:Str) : ∀ l:List X,wXs (z7c a b l)=wXs l
 | []=>by rw [z7c]
 | x::r=>by rw [z7c,wXs,wXs,w3i a b x,w1o a b r]
end
theorem x7e (a b:Str) : ∀ l:List Arg,GW (l.map (swA a b))=GW l
 | []=>rfl
 | x::r=>by rw [map_cons,GW,GW,x7e a b r,show (swA a b x).x=swX a b x.x from rfl,w3i]
mutual
theorem v0v (a b:Str) : ∀ s:S,wS (swS a b s)=wS s
 | .mk id kind labels name proc x has args thn els=>by rw [swS,wS,wS,w3i,q3e,x7e,w0y a b thn,w0y a b els]
theorem w0y (a b:Str) : ∀ l:List S,wL (swL a b l)=wL l
 | []=>by rw [swL]
 | t::r=>by rw [swL,wL,wL,v0v a b t,w0y a b r]
end
theorem z6c (a b:Str) : ∀ l:List Param,z8h (l.map (q5n a b))=z8h l
 | []=>rfl
 | x::r=>by rw [map_cons,z8h,z8h,z6c a b r]
theorem z4j (a b:Str) : ∀ l:List Pr,z8g (l.map (XH a b))=z8g l
 | []=>rfl
 | f::r=>by
   rw [map_cons,z8g,z8g,z4j a b r];unfold wPr XH;simp only;rw [q3e,q3e,z6c,w0y]
theorem w6i {a b:Str} {p:Pg} (h:Fit p):Fit (QS a b p):=by
 unfold Fit wPg QS at *
 simp only;rw [q3e,z4j];exact h
theorem q2z {α:Type} {R:α->α->Prop} (irr : ∀ a,¬R a a) (tr : ∀ a b c,R a b->R b c->R a c) : ∀ {l m:List α},l.Pairwise R->m.Pairwise R->(∀ s,s∈l↔s∈m)->l=m
 | [],[],_,_,_=>rfl
 | [],b::m,_,_,h=>by have:=(h b).2 mem_cons_self;cases this
 | a::l,[],_,_,h=>by have:=(h a).1 mem_cons_self;cases this
 | a::l,b::m,hl,hm,h=>by
   rw [List.pairwise_cons] at hl hm;have hab:a=b:=by
    rcases List.mem_cons.1 ((h a).1 mem_cons_self) with h1|h1
    ·exact h1
    rcases List.mem_cons.1 ((h b).2 mem_cons_self) with h2|h2
    ·exact h2.symm
    exact absurd (tr _ _ _ (hl.1 b h2) (hm.1 a h1)) (irr a)
   subst hab;rw [q2z irr tr hl.2 hm.2 fun s => ?_];constructor
   ·intro hs;rcases List.mem_cons.1 ((h s).1 (mem_cons_of_mem _ hs)) with rfl|h1
    ·exact absurd (hl.1 s hs) (irr s)
    ·exact h1
   ·intro hs;rcases List.mem_cons.1 ((h s).2 (mem_cons_of_mem _ hs)) with rfl|h1
    ·exact absurd (hm.1 s hs) (irr s)
    ·exact h1
theorem x9o : ∀ (x y:List UInt8),Op.bytesLess x y=decide (x<y)
 | [],[]=>by simp [Op.bytesLess]
 | _::_,[]=>by simp [Op.bytesLess]
 | [],_::_=>by simp [Op.bytesLess]
 | a::x,b::y=>by
   rw [Op.bytesLess,x9o x y];simp only [List.cons_lt_cons_iff];by_cases h1:a<b<;>by_cases h2:a=b<;>by_cases h3:x<y<;>simp [h1,h2,h3]
def ltT (a b:Str):Prop:=Op.bytesLess a b=true
theorem DE {a b:Str}:ltT a b↔a<b:=by
 unfold ltT;rw [x9o,decide_eq_true_eq]
theorem FM (a:Str) : ¬ltT a a:=fun h=>List.lt_irrefl a (DE.1 h)
theorem ltT.trans (a b c:Str) (h1:ltT a b) (h2:ltT b c):ltT a c:=DE.2 (List.lt_trans (DE.1 h1) (DE.1 h2))
theorem z8x {a b:Str} (h:a≠b):ltT a b∨ltT b a:=by
 by_cases h1:a<b
 ·exact .inl (DE.2 h1)
 ·rcases List.le_iff_lt_or_eq.1 (List.not_lt.1 h1) with h2|h2
  ·exact .inr (DE.2 h2)
  ·exact absurd h2.symm h
theorem z8m (l:List Str):(YK l).Pairwise fun a b=>a<=b:=by
 have:=List.pairwise_mergeSort (le:=fun x y:Str=>decide (x<=y)) (fun a b c h1 h2=>by
  rw [decide_eq_true_eq] at h1 h2 ⊢;exact List.le_trans h1 h2) (fun a b=>by
  rcases List.le_total a b with h|h
  ·rw [decide_eq_true h];rfl
  ·rw [decide_eq_true h];exact Bool.or_true _) l
 exact this.imp fun h=>by simpa using h
theorem x3c {l:List Str} (h:l.Pairwise fun a b=>a<=b):(Go.Lib.compact l).Pairwise ltT:=by
 unfold Go.Lib.compact Go.Lib.compactUpTo;rw [List.pairwise_map];refine (List.Pairwise.filter _ (List.pairwise_lt_range (n:=l.length))).imp_of_mem fun {i k} hi hk hlt => ?_;obtain ⟨hi1,_⟩:=List.mem_filter.1 hi;obtain ⟨hk1,hk2⟩:=List.mem_filter.1 hk;rw [List.mem_range] at hi1 hk1;have le : ∀ (a b:Nat) (_:a<=b) (hb:b<l.length),l[a]'(by omega)<=l[b]:=fun a b hab hb=>by
  rcases Nat.lt_or_ge a b with h1|h1
  ·exact List.pairwise_iff_getElem.1 h a b (by omega) hb h1
  ·obtain rfl:a=b:=by omega
   exact List.le_refl _
 have g : ∀ (a:Nat) (ha:a<l.length),l.toArray[a]! = l[a]:=fun a ha=>by simp [ha]
 rw [g i hi1,g k hk1];unfold Go.Lib.keeps at hk2;rw [decide_eq_true_eq,g k hk1,g (k-1) (by omega)] at hk2;have hne:l[k]≠l[k-1]'(by omega):=by
  rcases hk2 with h0|h0
  ·omega
  ·exact h0
 have h1:=le i (k-1) (by omega) (by omega);have h2:=le (k-1) k (by omega) hk1;rcases List.le_iff_lt_or_eq.1 h2 with h3|h3
 ·exact DE.2 (List.lt_of_le_of_lt h1 h3)
 ·exact absurd h3.symm hne
def XA (l:List Str):List Str:=Go.Lib.compact (YK l)
theorem XX {l:List Str} {s:Str}:s∈XA l↔s∈l:=by unfold XA;rw [YC,KU]
theorem WJ (l:List Str):(XA l).Pairwise ltT:=x3c (z8m l)
theorem x9y {l m:List Str} (h:m.Pairwise ltT) (hm : ∀ s,s∈m↔s∈l):m=XA l:=q2z FM ltT.trans h (WJ l) fun s=>by rw [hm,XX]
structure RiseI {α:Type} (R:α->α->Prop) (l out:List α) (i:Nat):Prop where
 rise:out.Pairwise R
 sub : ∀ s∈out,s∈l
 seg : ∀ s∈l,s∉out -> ∀ o∈out,R o s
 cnt:(∀ s∈l,s∈out)∨out.length=i
def LeastI {α:Type} (R:α->α->Prop) (l out:List α) (k:Nat):Option α->Prop
 | none => ∀ s∈l.take k,s∈out
 | some m=>m∈l∧m∉out ∧ ∀ s∈l.take k,s∉out->s=m∨R m s
section
variable {α:Type} {R:α->α->Prop} {l out:List α} {i k:Nat}
theorem RiseI.zero:RiseI R l [] 0:=⟨.nil,fun _ h=>(by cases h),fun _ _ _ _ h=>(by cases h),.inr rfl⟩
theorem LeastI.zero:LeastI R l out 0 none:=fun s h=>by rw [List.take_zero] at h;cases h
theorem ZQ {s:α} (hk:k<l.length):s∈l.take (k+1)↔s∈l.take k∨s=l[k]:=by
 rw [List.take_succ_eq_append_getElem hk,List.mem_append,List.mem_singleton]
theorem LeastI.old (hk:k<l.length) {o:Option α} (h:LeastI R l out k o) (hx:l[k]∈out):LeastI R l out (k+1) o:=by
 cases o with
 | none =>
   intro s hs;rcases (ZQ hk).1 hs with h1|rfl
   ·exact h s h1
   ·exact hx
 | some m =>
   refine ⟨h.1,h.2.1,fun s hs hn => ?_⟩;rcases (ZQ hk).1 hs with h1|rfl
   ·exact h.2.2 s h1 hn
   ·exact absurd hx hn
theorem LeastI.first (hk:k<l.length) (h:LeastI R l out k none) (hx:l[k]∉out):LeastI R l out (k+1) (some l[k]):=by
 refine ⟨List.getElem_mem hk,hx,fun s hs hn => ?_⟩;rcases (ZQ hk).1 hs with h1|rfl
 ·exact absurd (h s h1) hn
 ·exact .inl rfl
theorem LeastI.less (tr : ∀ a b c,R a b->R b c->R a c) (hk:k<l.length) {m:α} (h:LeastI R l out k (some m)) (hx:l[k]∉out) (hR:R l[k] m):LeastI R l out (k+1) (some l[k]):=by
 refine ⟨List.getElem_mem hk,hx,fun s hs hn => ?_⟩;rcases (ZQ hk).1 hs with h1|rfl
 ·rcases h.2.2 s h1 hn with rfl|h2
  ·exact .inr hR
  ·exact .inr (tr _ _ _ hR h2)
 ·exact .inl rfl
theorem LeastI.more (tot : ∀ a b,a≠b->R a b∨R b a) (hk:k<l.length) {m:α} (h:LeastI R l out k (some m)) (hR : ¬R l[k] m):LeastI R l out (k+1) (some m):=by
 refine ⟨h.1,h.2.1,fun s hs hn => ?_⟩;rcases (ZQ hk).1 hs with h1|rfl
 ·exact h.2.2 s h1 hn
 ·by_cases he:l[k]=m
  ·exact .inl he
  ·exact .inr ((tot _ _ he).resolve_left hR)
theorem RiseI.stay (h:RiseI R l out i) (hl:LeastI R l out l.length none):RiseI R l out (i+1):=by
 rw [LeastI,List.take_length] at hl;exact ⟨h.rise,h.sub,h.seg,.inl hl⟩
theorem RiseI.snoc (h:RiseI R l out i) {m:α} (hl:LeastI R l out l.length (some m)):RiseI R l (out++[m]) (i+1):=by
 obtain ⟨h1,h2,h3⟩:=hl;rw [List.take_length] at h3;refine ⟨?_,fun s hs => ?_,fun s hs hn o ho => ?_,?_⟩
 ·rw [List.pairwise_append];exact ⟨h.rise,List.pairwise_singleton _ _,fun a ha b hb=>by rw [List.mem_singleton.1 hb];exact h.seg m h1 h2 a ha⟩
 ·rcases List.mem_append.1 hs with h4|h4
  ·exact h.sub s h4
  ·rw [List.mem_singleton.1 h4];exact h1
 ·rw [List.mem_append,not_or,List.mem_singleton] at hn;rcases List.mem_append.1 ho with h4|h4
  ·exact h.seg s hs hn.1 o h4
  ·rw [List.mem_singleton.1 h4];exact (h3 s hs hn.1).resolve_left hn.2
 ·rcases h.cnt with h4|h4
  ·exact absurd (h4 m h1) h2
  ·exact .inr (by rw [List.length_append,h4];rfl)
theorem RiseI.nodup (irr : ∀ a,¬R a a) (h:RiseI R l out i):out.Nodup:=by
 unfold List.Nodup;refine h.rise.imp fun {a b} hR e => ?_;subst e;exact irr _ hR
theorem RiseI.all [DecidableEq α] (irr : ∀ a,¬R a a) (h:RiseI R l out i) (hi:i=l.length):out.Pairwise R ∧ ∀ s,s∈out↔s∈l:=by
 refine ⟨h.rise,fun s=>⟨h.sub s,fun hs => ?_⟩⟩;rcases h.cnt with h4|h4
 ·exact h4 s hs
 ·refine Classical.byContradiction fun hn => ?_;have hnd:(s::out).Nodup:=List.nodup_cons.2 ⟨hn,h.nodup irr⟩;have:=HB hnd (m:=l) fun x hx=>by
   rcases List.mem_cons.1 hx with rfl|hx
   ·exact hs
   ·exact h.sub x hx
  rw [List.length_cons] at this;omega
theorem RiseI.len [DecidableEq α] (irr : ∀ a,¬R a a) (h:RiseI R l out i):out.length<=l.length:=HB (h.nodup irr) h.sub
end
def z0c (k t:Nat) (cs:List AV):List (Nat×LV)->(List (Nat×LV)->Prop)->Prop
 | [],K=>K []
 | (j,l)::r,K=>bif beq j t then z0c k t cs r fun r=>K ((j,.p (.agg cs))::r) else UL (l.kill k) fun l=>z0c k t cs r fun r=>K ((j,l)::r)
theorem MP {k t:Nat} {cs:List AV} : ∀ {sl:List (Nat×LV)} {K:List (Nat×LV)->Prop},z0c k t cs sl K -> ∃ sl',K sl' ∧ ∀ i,getS sl' i=(getS sl i).kill k∨(i=t∧getS sl' i = .p (.agg cs))
 | [],_,h=>⟨[],h,fun _ => .inl rfl⟩
 | (j,l)::r,K,h=>by
   unfold z0c at h;cases hb:beq j t with
   | true =>
     rw [hb,cond_true] at h;have hj:j=t:=Nat.eq_of_beq_eq_true hb;obtain ⟨sl',hK,hs⟩:=MP h;refine ⟨_,hK,fun i => ?_⟩;simp only [getS];cases hi:j==i with
     | true=>exact .inr ⟨by rw [<- hj];exact (by simpa using hi:j=i).symm,rfl⟩
     | false=>exact hs i
   | false =>
     rw [hb,cond_false,XY] at h;obtain ⟨sl',hK,hs⟩:=MP h;refine ⟨_,hK,fun i => ?_⟩;simp only [getS];cases hi:j==i with
     | true=>exact .inl rfl
     | false=>exact hs i
theorem z8q {N:Nat} {s:St} {k:Nat} {e:TypeId} {sz:Nat} {es:List AV} {t:Nat} {ls:List LV} {cs:List AV} (hg:getH s.H k=some (.own e sz es)) (ht:getS s.sl t = .agg ls) (hln:ls.length=cs.length)
  (hcs : ∀ (j:Nat) (l:LV) (c:AV),ls[j]? = some l->cs[j]? = some c->(∃ a,l = .p a∧Sub a c)∨(∃ n,l = .hd k 0 n∧n=es.length∧c = .sl es)) {K:St->Prop} (h:z0c k t cs s.sl fun sl=>DG k s.H fun H=>K ⟨sl,H⟩) : ∃ s',K s'∧Le N s s':=by
 obtain ⟨sl,h,hsl⟩:=MP h;obtain ⟨H,h,hsub,hH⟩:=DY h;have agg : ∀ {σ τ:Mem} {β:Lab} {v:Value},σ.le τ->RepL σ β (.agg ls) v->(∀ v,RepL σ β (.hd k 0 es.length) v->Rep τ (.sl es) v)->Rep τ (.agg cs) v:=fun {σ τ β v} hle hv hrow=>by
  cases hv with
  | agg _ vs u hn hc hrr =>
    refine Rep.agg cs vs u (by rw [hn,hln]) (fun j c hj => ?_) fun j c hj => ?_
    ·have hlt:j<ls.length:=by rw [hln];exact (List.getElem?_eq_some_iff.1 hj).1
     exact hc j _ (List.getElem?_eq_getElem hlt)
    ·have hlt:j<ls.length:=by rw [hln];exact (List.getElem?_eq_some_iff.1 hj).1
     have h1:=hrr j _ (List.getElem?_eq_getElem hlt);rcases hcs j _ c (List.getElem?_eq_getElem hlt) hj with ⟨a,h2,h3⟩|⟨n,h2,rfl,rfl⟩
     ·rw [h2] at h1;cases h1 with
      | p hp=>exact h3 _ _ (hp.mono hle)
     ·rw [h2] at h1;exact hrow _ h1
 refine ⟨_,h,fun σ β a w hr => ?_⟩;rcases VS.1 (hr.heap.chunks k _ (QB hg)) with ⟨hb0,rfl⟩|⟨i,vs,hi,hisz,hh,hn,hle',hmax,hE⟩
 ·refine ⟨σ,β,⟨hr.size,hr.defers,fun j => ?_,⟨hr.heap.mem,fun j c' hj => ?_,hsub.nodup hr.heap.nodup,fun j hj=>hr.heap.apart j (hsub.subset hj),fun j hj j' hj'=>hr.heap.inj j (hsub.subset hj) j' (hsub.subset hj')⟩⟩,Mem.le_refl σ,Frm.refl _ _,fun _ h0 h1=>absurd h0 h1,fun b ⟨j,hj,r⟩ => .inl ⟨j,hsub.subset hj,r⟩,fun _ _ _=>rfl⟩
  ·show RepL σ β (getS sl j) _;have hv:=hr.slots j;rcases hsl j with he|⟨rfl,h2⟩
   ·rw [he];exact hv.kill k
   ·rw [h2];rw [ht] at hv;refine .p (agg (Mem.le_refl σ) hv fun v hv => ?_);rcases hv.hdI with ⟨_,_,_,he⟩|⟨i,_,hk,_⟩
    ·rw [he];exact .nilsl
    ·rw [hb0] at hk;cases hk
  ·obtain ⟨_,c,h2,rfl⟩:=hH j c' hj;exact (hr.heap.chunks j c h2).kill k
 ·refine hr.lay hi (XU hg) hh (fun τ hle hτ j v hv => ?_) (fun τ hle hτ j c' hj => ?_) (hsub.nodup hr.heap.nodup)
  ·show RepL τ β (getS sl j) v;rcases hsl j with he|⟨rfl,h2⟩
   ·rw [he];exact (hv.kill k).mono hle
   ·rw [h2];rw [ht] at hv;refine .p (agg hle hv fun v hv => ?_);rcases hv.hdI with ⟨hk,_⟩|⟨i',oo,hk,hl,ho,rfl⟩
    ·rw [hi] at hk;cases hk
    ·rw [hi] at hk;cases hk;have hoo:oo=0:=by
      rcases ho with ho|ho
      ·simpa using ho
      ·omega
     subst hoo;obtain ⟨u,hu⟩ : ∃ u:Nat->Nat->Value,∀ (m:Nat) (x:AV) (j:Nat) (c:AV),es[m]? = some x->x.cells[j]? = some c->vs[m*sz+j]? = some (u m j)∧Rep σ c (u m j):=by
      refine ⟨fun m j=>(vs[m*sz+j]?).getD undef,fun m x j c hx hj => ?_⟩;obtain ⟨v,h1,h2⟩:=hE.rep m x j c hx hj;rw [List.getElem?_take] at h1;split at h1
      ·have h1':vs[m*sz+j]? = some v:=by simpa using h1
       exact ⟨by simp [h1'],by simpa [h1'] using h2⟩
      ·cases h1
     exact .sl es i.blk 0 _ sz vs u hτ (by omega) (by omega) hE.size (fun m x j c hx hj=>by simpa using (hu m x j c hx hj).1) fun m x j c hx hj=>(hu m x j c hx hj).2.mono hle
  ·obtain ⟨h1,c,h2,rfl⟩:=hH j c' hj;exact ⟨h1,c,h2,fun hold=>(hold.kill k).mono hle fun _ _ _ _=>rfl⟩
theorem q0v {P:Program} {T:Tab} {N:Nat} {o:Oper} {K:St->Prop} {s:St} (hT:TabOK P T) {k:Nat} {e:TypeId} {sz:Nat} {es:List AV} (t:Nat) {ls:List LV} (cs:List AV) (hg:getH s.H k=some (.own e sz es)) (ht:getS s.sl t = .agg ls) (hln:ls.length=cs.length)
  (hcs : ∀ (j:Nat) (l:LV) (c:AV),ls[j]? = some l->cs[j]? = some c->(∃ a,l = .p a∧Sub a c)∨(∃ n,l = .hd k 0 n∧n=es.length∧c = .sl es)) (h:z0c k t cs s.sl fun sl=>DG k s.H fun H=>opW P T N ⟨sl,H⟩ o K):OpK P N s o K:=⟨fun σ β a w hr Q=>by
 obtain ⟨s1,h1,hle⟩:=z8q (N:=N) hg ht hln hcs (K:=fun s'=>opW P T N s' o K) h;obtain ⟨σ1,β1,hr1,hl1⟩:=hle σ β a w hr;exact Oper.wp_mono (fun a' w' ⟨σ',β',s2,hK,hr',hl⟩=>⟨σ',β',s2,hK,hr',hl1.trans hl⟩) (NA hT h1 hr1 Q)⟩
section
variable {P:Program} {T:Tab} {N:Nat} {o:Oper} {K:St->Prop} {s:St}
end
section
variable {P:Program} {T:Tab} {N:Nat} {o:Oper} {s:St} {hr:Bool}
def setCell (b:Nat) (c:AV) (l:List (Nat×AV)):List (Nat×AV):=l.map fun x=>if x.1=b then (b,c) else x
end
theorem z0h {s:St} {k k2:Nat} {c c2:Chunk} {K:St->Prop} (h:FG s k k2 c c2 K) : ∃ s2,K s2∧FG s k k2 c c2 fun s3=>s3=s2:=by
 unfold FG at h ⊢;obtain ⟨sl,h1,_⟩:=YW (by rfl) h;have key : ∀ {f:LV->LV} {l:List (Nat×LV)} {K:List (Nat×LV)->Prop},q5o f l K↔K (l.map fun x=>(x.1,f x.2)):=fun {f} l=>by
  induction l with
  | nil=>intro K;rfl
  | cons x r ih=>intro K;simp only [q5o,XY,ih,map_cons]
 have key2 : ∀ {f:LV->LV} {c:Chunk} {H:Heap},∃ H',∀ K:Heap->Prop,q1n k k2 f c H K↔K H':=fun {f c} H=>by
  induction H with
  | nil=>exact ⟨[],fun K=>Iff.rfl⟩
  | cons x r ih =>
    obtain ⟨H',hH'⟩:=ih;obtain ⟨j,d⟩:=x;simp only [q1n,PN];cases j==k2 with
    | true=>exact ⟨H',fun K=>by simp only [cond_true];exact hH' _⟩
    | false =>
      cases j==k with
      | true=>exact ⟨(j,c)::H',fun K=>by simp only [cond_true,cond_false];exact hH' _⟩
      | false=>exact ⟨(j,d.mapL f)::H',fun K=>by simp only [cond_false];exact hH' _⟩
 rw [key] at h;simp only [key];obtain ⟨H',hH'⟩:=key2 (f:=LV.xkill k) (c:=c) (H:=s.H);rw [hH'] at h;exact ⟨_,h,(hH' _).2 rfl⟩
theorem OpK.focus {P:Program} {T:Tab} {N:Nat} (hT:TabOK P T) {s:St} {o:Oper} {K:St->Prop} (t k a k2:Nat) {e e2 sz:Nat} {rows:List (List AV)} {hole:List Nat} {row:List AV} (hu:ZF k2 s=true) (hg:getH s.H k=some (.ext (.mat e e2 sz rows hole)))
  (hrow:rows[a]? = some row) (hnh:a∉hole) (hpin:WL k=false) (ht:getS s.sl t = .ext k (.row a row.length))
  (h:FG s k k2 (.ext (.mat e e2 sz rows (a::hole))) (.own e2 sz row) fun s2=>opW P T N ⟨(t,.hd k2 0 row.length)::s2.sl,s2.H⟩ o K):OpK P N s o K:=by
 obtain ⟨s2,h,he⟩:=z0h h;refine ⟨fun σ β ac w hr Q => ?_⟩;obtain ⟨β',hr',hl,hrep,hrow'⟩:=x7l hr hu hg hrow hnh hpin he;have hr2:Rel N σ β' ⟨(t,.hd k2 0 row.length)::s2.sl,s2.H⟩ ac w:=⟨hr'.size,hr'.defers,fun i=>by
  show RepL σ β' (getS ((t,.hd k2 0 row.length)::s2.sl) i) _;simp only [getS];cases hi:t==i with
  | true =>
    have:t=i:=by simpa using hi
    subst this;have h1:=hr.slots t;rw [ht] at h1;exact hrow' _ h1
  | false=>exact hr'.slots i,hr'.heap⟩
 exact Oper.wp_mono (fun a' w' ⟨σ',β'',s3,hK,hr3,hl3⟩=>⟨σ',β'',s3,hK,hr3,hl.trans hl3⟩) (NA hT h hr2 Q)
theorem z3q {α:Type} {l m:List α} {j:Nat} (h:l.take j=m.take j) (hl:j<l.length) (hm:j<m.length) (he:l[j]=m[j]):l.take (j+1)=m.take (j+1):=by
 rw [List.take_succ_eq_append_getElem hl,List.take_succ_eq_append_getElem hm,h,he]
theorem z8f {α:Type} {l m:List α} {j:Nat} (h:l.take j=m.take j) (hl:l.length<=j) (hm:m.length<=j):l=m:=by
 rwa [List.take_of_length_le hl,List.take_of_length_le hm] at h
theorem QN (l m:List Str):SpecP Tryz.prog 20 [eStrs l,eStrs m] (fun r=>r = .bool (decide (l=m))):=by
 refine sB HQ Tryz.func20 rfl Tryz.call20 ?_;conv=>whnf
 have h1:(l.map AV.str).length=l.length:=length_map _;have h2:(m.map AV.str).length=m.length:=length_map _;repeat' (first|(refine iM fun _=>?_;conv=>whnf)|(apply bE<;>intro _<;>first|omega|conv=>whnf))
 all_goals first
  | exact RetK.ff (decide_eq_false fun h=>by subst h;omega)
  | skip
 have hlen:l.length=m.length:=by omega
 refine LoopK.inv QJ (fun j:Nat=>⟨[(0,.p (eStrs l)),(1,.p (eStrs m)),(12,.p (.int .i64 (l.map AV.str).length)),(13,.p (.int .i64 j))],[]⟩) (fun j=>j<=l.length∧l.take j=m.take j) (fun j=>l.length-j) 0 (Le.of_eq rfl) ⟨zero_le _,rfl⟩ ?_;rintro j ⟨h3,h4⟩;rcases Nat.lt_or_ge j l.length with hj|hj
 ·conv=>whnf
  repeat' (first|((first|refine dA ?_|(refine iA fun _=>?_)|refine wI ?_);conv=>whnf)|(apply bD<;>intro _<;>first|omega|conv=>whnf)|(apply bN<;>intro _<;>conv=>whnf))
  all_goals first
   | exact RetK.ff (decide_eq_false fun h=>by subst h;simp_all)
   | exact ⟨j+1,⟨by omega,z3q h4 hj (by omega) (by simp_all)⟩,by omega,Le.of_eq rfl⟩
 ·conv=>whnf
  repeat' (apply bD<;>intro _<;>first|omega|conv=>whnf)
  exact RetK.tt (decide_eq_true (z8f h4 hj (by omega)))
theorem z2r {E:Int->Int->Prop} {B:List Int} {u x:Int} (h:Rch E u x) (hu:u∈B) (hx:x∉B) : ∃ z y,z∈B∧E z y∧y∉B∧Rch E u y∧Rch E y x:=by
 induction h with
 | refl=>exact absurd hu hx
 | @tail b c h hr ih =>
   by_cases hb:b∈B
   ·exact ⟨b,c,hb,hr,hx,.tail h hr,.refl⟩
   ·obtain ⟨z,y,h1,h2,h3,h4,h5⟩:=ih hb;exact ⟨z,y,h1,h2,h3,h4,.tail h5 hr⟩
def chainE (E:Int->Int->Prop):List Int->Prop
 | []=>True
 | [_]=>True
 | a::b::r=>E a b∧chainE E (b::r)
theorem BR {E:Int->Int->Prop} : ∀ (l:List Int) {a y:Int},chainE E (l++[a])->y∈l++[a]->Rch E y a
 | [],a,y,_,hy=>by
   simp at hy;rw [hy];exact .refl
 | [b],a,y,h,hy=>by
   simp at hy;rcases hy with rfl|rfl
   ·exact .tail .refl h.1
   ·exact .refl
 | b::c::r,a,y,h,hy=>by
   have h1:chainE E ((c::r)++[a]):=h.2;rcases List.mem_cons.1 hy with rfl|hy
   ·exact .head h.1 (BR (c::r) h1 (by simp))
   ·exact BR (c::r) h1 hy
theorem q4k {E:Int->Int->Prop} : ∀ (l:List Int) {a b:Int},chainE E (l++[a])->E a b->chainE E (l++[a]++[b])
 | [],a,b,_,hb=>⟨hb,trivial⟩
 | [c],a,b,h,hb=>⟨h.1,hb,trivial⟩
 | c::d::r,a,b,h,hb=>⟨h.1,q4k (d::r) h.2 hb⟩
theorem q6e {E:Int->Int->Prop} : ∀ (l:List Int) {a:Int},chainE E (l++[a])->chainE E l
 | [],_,_=>trivial
 | [_],_,_=>trivial
 | c::d::r,_,h=>⟨h.1,q6e (d::r) h.2⟩
structure DfsI (n:Nat) (E:Int->Int->Prop) (out stack:List Int):Prop where
 nd:(out++stack).Nodup
 rng : ∀ x∈out++stack,0<=x∧x<n
 path:chainE E stack
 cl : ∀ u∈out,∀ v,E u v->v∈out∨v∈stack
 J : ∀ u∈out,∀ x,Rch E u x->x∉out -> ∃ s∈stack,Rch E u s∧Rch E s u∧Rch E s x
 K : ∀ (i:Nat) (r:Int),out[i]? = some r -> ∀ u,Rch E u r->Rch E r u ∨ ∃ u',Rch E u u'∧Rch E u' u∧(u'∉out ∨ ∃ j,i<j∧out[j]? = some u')
theorem DfsI.start (n:Nat) (E:Int->Int->Prop):DfsI n E [] []:=⟨by simp,by simp,trivial,by simp,by simp,by simp⟩
theorem DfsI.push {n:Nat} {E:Int->Int->Prop} {out stack:List Int} (h:DfsI n E out stack) {b:Int} (hb:0<=b∧b<n) (hn:b∉out++stack) (hp:chainE E (stack++[b])):DfsI n E out (stack++[b]):=by
 refine ⟨?_,fun x hx => ?_,hp,fun u hu v hv => ?_,fun u hu x hx hxo => ?_,h.K⟩
 ·rw [<- List.append_assoc,nodup_append];refine ⟨h.nd,by simp,fun x hx y hy => ?_⟩;rw [List.mem_singleton.1 hy];exact fun e=>hn (e▸hx)
 ·rw [<- List.append_assoc] at hx;rcases List.mem_append.1 hx with hx|hx
  ·exact h.rng x hx
  ·rw [List.mem_singleton.1 hx];exact hb
 ·rcases h.cl u hu v hv with h1|h1
  ·exact .inl h1
  ·exact .inr (List.mem_append.2 (.inl h1))
 ·obtain ⟨s,h1,h2⟩:=h.J u hu x hx hxo;exact ⟨s,List.mem_append.2 (.inl h1),h2⟩
theorem DfsI.pop {n:Nat} {E:Int->Int->Prop} {out st:List Int} {a:Int} (h:DfsI n E out (st++[a])) (ha : ∀ v,E a v->v∈out∨v∈st++[a]):DfsI n E (out++[a]) st:=by
 have hnd:=h.nd;rw [nodup_append] at hnd;obtain ⟨hn1,hn2,hn3⟩:=hnd;rw [nodup_append] at hn2;obtain ⟨hn4,_,hn5⟩:=hn2;have hao:a∉out:=fun hm=>hn3 a hm a (by simp) rfl;have hast:a∉st:=fun hm=>hn5 a hm a (by simp) rfl;have hcl : ∀ u∈out++[a],∀ v,E u v->v∈out++[a]∨v∈st:=fun u hu v hv=>by
  have:v∈out∨v∈st++[a]:=by
   rcases List.mem_append.1 hu with hu|hu
   ·exact h.cl u hu v hv
   ·rw [List.mem_singleton.1 hu] at hv;exact ha v hv
  rcases this with h1|h1
  ·exact .inl (List.mem_append.2 (.inl h1))
  ·rcases List.mem_append.1 h1 with h1|h1
   ·exact .inr h1
   ·exact .inl (List.mem_append.2 (.inr h1))
 have hfst : ∀ u∈out++[a],∀ x,Rch E u x->x∉out++[a] -> ∃ y∈st,Rch E u y∧Rch E y x:=fun u hu x hx hxo=>by
  obtain ⟨z,y,h1,h2,h3,h4,h5⟩:=z2r hx hu hxo;rcases hcl z h1 y h2 with h6|h6
  ·exact absurd h6 h3
  ·exact ⟨y,h6,h4,h5⟩
 have hya : ∀ y∈st,Rch E y a:=fun y hy=>BR st h.path (List.mem_append.2 (.inl hy));refine ⟨?_,fun x hx => ?_,q6e st h.path,hcl,fun u hu x hx hxo => ?_,fun i r hi u hu => ?_⟩
 ·rw [List.append_assoc,nodup_append];refine ⟨hn1,?_,fun x hx y hy=>hn3 x hx y (by simp at hy ⊢;exact hy.symm)⟩;rw [nodup_append];refine ⟨by simp,hn4,fun x hx y hy e => ?_⟩;rw [List.mem_singleton.1 hx] at e;exact hast (e▸hy)
 ·refine h.rng x ?_;simp only [List.mem_append,List.mem_singleton] at hx ⊢;rcases hx with (h1|h1)|h1
  ·exact .inl h1
  ·exact .inr (.inr h1)
  ·exact .inr (.inl h1)
 ·obtain ⟨y,h1,h2,h3⟩:=hfst u hu x hx hxo;rcases List.mem_append.1 hu with hu|hu
  ·have hyo:y∉out:=fun hm=>hn3 y hm y (List.mem_append.2 (.inl h1)) rfl;obtain ⟨s,h4,h5,h6,h7⟩:=h.J u hu y h2 hyo;rcases List.mem_append.1 h4 with h4|h4
   ·exact ⟨s,h4,h5,h6,h7.trans h3⟩
   ·rw [List.mem_singleton.1 h4] at h5 h6;exact ⟨y,h1,h2,(hya y h1).trans h6,h3⟩
  ·rw [List.mem_singleton.1 hu] at h2 ⊢;exact ⟨y,h1,h2,hya y h1,h3⟩
 ·rcases Nat.lt_or_ge i out.length with hil|hil
  ·rw [List.getElem?_append_left hil] at hi;rcases h.K i r hi u hu with h1|⟨u',h1,h2,h3⟩
   ·exact .inl h1
   ·refine .inr ⟨u',h1,h2,?_⟩;rcases h3 with h3|⟨j,h3,h4⟩
    ·by_cases hua:u'=a
     ·exact .inr ⟨out.length,hil,by rw [hua];simp⟩
     ·exact .inl fun hm=>by
       rcases List.mem_append.1 hm with hm|hm
       ·exact h3 hm
       ·exact hua (List.mem_singleton.1 hm)
    ·exact .inr ⟨j,h3,by rw [List.getElem?_append_left (List.getElem?_eq_some_iff.1 h4).1];exact h4⟩
  ·have hr:r=a:=by
    have h1:=(List.getElem?_eq_some_iff.1 hi).1;simp at h1;rw [List.getElem?_append_right hil,show i-out.length=0 by omega] at hi;simpa using hi.symm
   subst hr;by_cases hau:Rch E r u
   ·exact .inl hau
   ·right;by_cases huo:u∈out
    ·obtain ⟨s,h4,h5,h6,h7⟩:=h.J u huo r hu hao;rcases List.mem_append.1 h4 with h4|h4
     ·refine ⟨s,h5,h6,.inl fun hm => ?_⟩;rcases List.mem_append.1 hm with hm|hm
      ·exact hn3 s hm s (List.mem_append.2 (.inl h4)) rfl
      ·rw [List.mem_singleton.1 hm] at h4;exact hast h4
     ·rw [List.mem_singleton.1 h4] at h6;exact absurd h6 hau
    ·refine ⟨u,.refl,.refl,.inl fun hm => ?_⟩;rcases List.mem_append.1 hm with hm|hm
     ·exact huo hm
     ·rw [List.mem_singleton.1 hm] at hau;exact hau .refl
structure EndsP (n:Nat) (E:Int->Int->Prop) (es:List Int):Prop where
 nd:es.Nodup
 mem : ∀ x:Int,x∈es↔0<=x∧x<n
 K : ∀ (i:Nat) (r:Int),es[i]? = some r -> ∀ u:Int,0<=u∧u<n->Rch E u r->Rch E r u ∨ ∃ u',Rch E u u'∧Rch E u' u ∧ ∃ j,i<j∧es[j]? = some u'
theorem DfsI.fin {n:Nat} {E:Int->Int->Prop} (hE : ∀ x y,E x y->0<=y∧y<n) {out:List Int} (h:DfsI n E out []) (hall : ∀ x:Int,0<=x∧x<n->x∈out):EndsP n E out:=by
 refine ⟨by simpa using h.nd,fun x=>⟨fun hx=>h.rng x (by simpa using hx),hall x⟩,fun i r hi u hur hu => ?_⟩;rcases h.K i r hi u hu with h1|⟨u',h1,h2,h3⟩
 ·exact .inl h1
 ·refine .inr ⟨u',h1,h2,?_⟩;rcases h3 with h3|h3
  ·exfalso;apply h3;apply hall;cases h1 with
   | refl=>exact hur
   | tail _ hr=>exact hE _ _ hr
  ·exact h3
def sccP (E:Int->Int->Prop) (x y:Int):Prop:=Rch E x y∧Rch E y x
theorem sccP.refl {E:Int->Int->Prop} (x:Int):sccP E x x:=⟨.refl,.refl⟩
theorem sccP.symm {E:Int->Int->Prop} {x y:Int} (h:sccP E x y):sccP E y x:=⟨h.2,h.1⟩
theorem sccP.trans {E:Int->Int->Prop} {x y z:Int} (h:sccP E x y) (h':sccP E y z):sccP E x z:=⟨h.1.trans h'.1,h'.2.trans h.2⟩
def SeenP (E:Int->Int->Prop) (es:List Int) (i:Nat) (x:Int):Prop := ∃ (j:Nat) (y:Int),i<=j∧es[j]? = some y∧sccP E x y
theorem z4t {n:Nat} {E:Int->Int->Prop} (hE : ∀ x y,E x y->(0<=x∧x<n)∧0<=y∧y<n) {es:List Int} (h:EndsP n E es) {i:Nat} {r:Int} (hi:es[i]? = some r) (hr : ¬SeenP E es (i+1) r) (x:Int) :
  Rch (fun a b=>E b a ∧ ¬SeenP E es (i+1) b) r x↔sccP E r x:=by
 have hrr:=(h.mem r).1 (List.mem_of_getElem? hi);constructor
 ·intro hx;have key:(0<=x∧x<n) ∧ ¬SeenP E es (i+1) x∧Rch E x r:=hx.closed (S:=fun x:Int=>(0<=x∧x<n) ∧ ¬SeenP E es (i+1) x∧Rch E x r) (fun a b ⟨h1,h2,h3⟩ ⟨h4,h5⟩=>⟨(hE _ _ h4).1,h5,.head h4 h3⟩) ⟨hrr,hr,.refl⟩;refine ⟨?_,key.2.2⟩;rcases h.K i r hi x key.1 key.2.2 with h1|⟨u',h1,h2,j,h3,h4⟩
  ·exact h1
  ·exact absurd ⟨j,u',h3,h4,h1,h2⟩ key.2.1
 ·rintro ⟨h1,h2⟩;have hns : ∀ y,sccP E r y -> ¬SeenP E es (i+1) y:=fun y hy ⟨j,z,h3,h4,h5⟩=>hr ⟨j,z,h3,h4,hy.trans h5⟩;have key : ∀ {a b:Int},Rch E a b->Rch E r a->Rch E b r->Rch (fun a b=>E b a ∧ ¬SeenP E es (i+1) b) b a:=fun {a b} hab=>by
   induction hab with
   | refl=>intro _ _;exact .refl
   | @tail b c hab hbc ih =>
     intro h3 h4;have h5:Rch E b r := .head hbc h4;exact .head ⟨hbc,hns b ⟨h3.trans hab,h5⟩⟩ (ih h3 h5)
  exact key h2 h1 .refl
theorem z7o {E:Int->Int->Prop} {es:List Int} {i:Nat} {r:Int} (hi:es[i]? = some r) (hr:SeenP E es (i+1) r) (x:Int):SeenP E es i x↔SeenP E es (i+1) x:=by
 constructor
 ·rintro ⟨j,y,h1,h2,h3⟩;rcases Nat.eq_or_lt_of_le h1 with h4|h4
  ·subst h4;rw [hi] at h2;cases h2;obtain ⟨k,z,h5,h6,h7⟩:=hr;exact ⟨k,z,h5,h6,h3.trans h7⟩
  ·exact ⟨j,y,h4,h2,h3⟩
 ·rintro ⟨j,y,h1,h2,h3⟩;exact ⟨j,y,by omega,h2,h3⟩
theorem x1v {E:Int->Int->Prop} {es:List Int} {i:Nat} {r:Int} (hi:es[i]? = some r) (x:Int):SeenP E es i x↔SeenP E es (i+1) x∨sccP E r x:=by
 constructor
 ·rintro ⟨j,y,h1,h2,h3⟩;rcases Nat.eq_or_lt_of_le h1 with h4|h4
  ·subst h4;rw [hi] at h2;cases h2;exact .inr h3.symm
  ·exact .inl ⟨j,y,h4,h2,h3⟩
 ·rintro (⟨j,y,h1,h2,h3⟩|h)
  ·exact ⟨j,y,by omega,h2,h3⟩
  ·exact ⟨i,r,Nat.le_refl _,hi,h.symm⟩
theorem w0g {n:Nat} {E:Int->Int->Prop} {es:List Int} (h:EndsP n E es) {x:Int} (hx:0<=x∧x<n):SeenP E es 0 x:=by
 obtain ⟨j,hj⟩:=List.mem_iff_getElem?.1 ((h.mem x).2 hx);exact ⟨j,x,zero_le _,hj,.refl x⟩
def rowE (rows:List (List Int)) (x y:Int):Prop:=0<=x∧x0m rows x y
structure EndI (n:Nat) (rows:List (List Int)) (out stack:List Int) (seen:List Bool) (at_:List Int):Prop where
 dfs:DfsI n (rowE rows) out stack
 sl:seen.length=n
 al:at_.length=n
 seen : ∀ x:Int,0<=x∧x<n->(seen.getD x.toNat false=true↔x∈out++stack)
 arng : ∀ x:Int,0<=x∧x<n->0<=at_.getD x.toNat 0∧at_.getD x.toNat 0<=(rows.getD x.toNat []).length
 cur : ∀ x:Int,0<=x∧x<n -> ∀ (i:Nat) (y:Int),(i:Int)<at_.getD x.toNat 0->(rows.getD x.toNat [])[i]? = some y->y∈out++stack
theorem EndI.start (n:Nat) (rows:List (List Int)):EndI n rows [] [] (List.replicate n false) (List.replicate n 0):=by
 have h0 : ∀ x:Int,(List.replicate n (0:Int)).getD x.toNat 0=0:=fun x=>by
  rw [getD_eq_getElem?_getD,List.getElem?_replicate];split<;>rfl
 refine ⟨DfsI.start n _,by simp,by simp,fun x hx => ?_,fun x hx=>by rw [h0];omega,fun x hx i y hi=>by rw [h0] at hi;omega⟩;rw [getD_eq_getElem?_getD,List.getElem?_replicate];split<;>simp
theorem ZN {α:Type} {l:List α} {i j:Nat} {a d:α} (hi:i<l.length):(l.set i a).getD j d=if i=j then a else l.getD j d:=by
 simp only [getD_eq_getElem?_getD,List.getElem?_set];split
 ·rename_i h;first
   | rfl
   | (rw [if_pos hi];rfl)
 ·rfl
theorem EndI.push {n:Nat} {rows:List (List Int)} {out stack:List Int} {seen:List Bool} {at_:List Int} (h:EndI n rows out stack seen at_) {b:Int} (hb:0<=b∧b<n) (hn:seen.getD b.toNat false=false) (hp:chainE (rowE rows) (stack++[b])):EndI n rows out (stack++[b]) (seen.set b.toNat true) at_:=by
 have hno:b∉out++stack:=fun hm=>by rw [(h.seen b hb).2 hm] at hn;cases hn
 refine ⟨h.dfs.push hb hno hp,by simpa using h.sl,h.al,fun x hx => ?_,h.arng,fun x hx i y hi hy => ?_⟩
 ·rw [ZN (by rw [h.sl];omega),<- List.append_assoc,List.mem_append,List.mem_singleton];split
  ·have:x=b:=by omega
   simp [this]
  ·have:x≠b:=by omega
   rw [h.seen x hx];simp [this]
 ·rw [<- List.append_assoc];exact List.mem_append.2 (.inl (h.cur x hx i y hi hy))
theorem EndI.pop {n:Nat} {rows:List (List Int)} {out st:List Int} {a:Int} {seen:List Bool} {at_:List Int} (h:EndI n rows out (st++[a]) seen at_) (ha:at_.getD a.toNat 0=(rows.getD a.toNat []).length):EndI n rows (out++[a]) st seen at_:=by
 have hr:=h.dfs.rng a (by simp);have hsw : ∀ x:Int,x∈out++[a]++st↔x∈out++(st++[a]):=fun x=>by
  simp only [List.mem_append,List.mem_singleton];constructor
  ·rintro ((h1|h1)|h1)
   ·exact .inl h1
   ·exact .inr (.inr h1)
   ·exact .inr (.inl h1)
  ·rintro (h1|h1|h1)
   ·exact .inl (.inl h1)
   ·exact .inr h1
   ·exact .inl (.inr h1)
 refine ⟨h.dfs.pop fun v hv => ?_,h.sl,h.al,fun x hx=>by rw [h.seen x hx,hsw],h.arng,fun x hx i y hi hy=>(hsw y).2 (h.cur x hx i y hi hy)⟩;obtain ⟨i,hi⟩:=List.mem_iff_getElem?.1 hv.2;have:=h.cur a hr i v (by rw [ha];have:=(List.getElem?_eq_some_iff.1 hi).1;omega) hi;exact List.mem_append.1 this
theorem EndI.step {n:Nat} {rows:List (List Int)} {out stack:List Int} {seen:List Bool} {at_:List Int} (h:EndI n rows out stack seen at_) {a b:Int} (ha:0<=a∧a<n) {k:Nat} (hk:at_.getD a.toNat 0=k) (hb:(rows.getD a.toNat [])[k]? = some b) (hs:b∈out++stack):EndI n rows out stack seen (at_.set a.toNat ((k:Int)+1)):=by
 have hlt:a.toNat<at_.length:=by rw [h.al];omega
 refine ⟨h.dfs,h.sl,by simpa using h.al,h.seen,fun x hx => ?_,fun x hx i y hi hy => ?_⟩
 ·rw [ZN hlt];split
  ·rename_i he;have:=(List.getElem?_eq_some_iff.1 hb).1;rw [<- he];omega
  ·exact h.arng x hx
 ·rw [ZN hlt] at hi;split at hi
  ·rename_i he;rw [<- he] at hy;rcases Nat.lt_or_ge i k with hik|hik
   ·exact h.cur a ha i y (by omega) hy
   ·have:i=k:=by omega
    subst this;rw [hb] at hy;cases hy;exact hs
  ·exact h.cur x hx i y hi hy
def w2h (m:Int) (l:List Int):Int:=l.foldl (fun m x=>if x<m then x else m) m
def x1w:List Int->Int
 | []=>0
 | a::r=>w2h a r
theorem x2r : ∀ (l:List Int) (m:Int),w2h m l∈m::l ∧ ∀ x∈m::l,w2h m l<=x
 | [],m=>⟨by simp [w2h],by simp [w2h]⟩
 | a::r,m=>by
   obtain ⟨h1,h2⟩:=x2r r (if a<m then a else m);have e:w2h m (a::r)=w2h (if a<m then a else m) r:=rfl;have h3:=h2 _ mem_cons_self;rw [e];generalize w2h (if a<m then a else m) r=z at h1 h2 h3 ⊢;refine ⟨?_,fun x hx => ?_⟩
   ·rcases List.mem_cons.1 h1 with h|h
    ·rw [h];split<;>simp
    ·exact mem_cons_of_mem _ (mem_cons_of_mem _ h)
   ·rcases List.mem_cons.1 hx with rfl|hx
    ·split at h3<;>omega
    ·rcases List.mem_cons.1 hx with rfl|hx
     ·split at h3<;>omega
     ·exact h2 x (mem_cons_of_mem _ hx)
theorem x2a {l:List Int} (h:0<l.length):x1w l∈l ∧ ∀ x∈l,x1w l<=x:=by
 cases l with
 | nil=>simp at h
 | cons a r=>exact x2r r a
theorem OpK.min2 {P:Program} {N:Nat} {s:St} {o:Oper} {K:St->Prop} {x y:Operand} {ts:Array TypeId} (hop:o.op = .call { callee := .builtin .min,args := #[x,y],argTypes:=ts }) {m n:Int} (hx:QT s.sl x = .p (.int .i64 m)) (hy:QT s.sl y = .p (.int .i64 n))
  (h:setD N s.sl o.dst (.p (.int .i64 (if n<m then n else m))) fun sl=>K ⟨sl,s.H⟩):OpK P N s o K:=by
 refine ⟨fun σ β a w hr Q => ?_⟩;have h1:=QV hr.slots x;have h2:=QV hr.slots y;rw [hx] at h1;rw [hy] at h2;have e1:=h1.int;have e2:=h2.int;have hrun:(execOp a.eval o).run P w = .ok (.value (.int .i64 (if n<m then n else m))) w:=by
  simp [execOp,hop,resolve,invoke,builtin,e1,e2,Builtin.min_,Builtin.min2]
 obtain ⟨sl,hK,hr2⟩:=hr.setD (.p (.int .i64 (if n<m then n else m))) h;exact VX hrun ⟨σ,β,_,hK,hr2,Later.refl _ _ _ _⟩
theorem BQ (l:List Int) (hl:0<l.length):SpecP Tryz.prog 258 [UY l] (fun r=>r = .int .i64 (x1w l)):=by
 refine sB FD Tryz.func258 rfl Tryz.call258 ?_;conv=>whnf
 have hlm:(l.map (AV.int .i64)).length=l.length:=length_map _;repeat' (first|(refine iM fun _=>?_;conv=>whnf)|(apply bD<;>intro _<;>first|omega|conv=>whnf))
 refine IdxK.at (k:=0) (e := .int .i64 l[0]) rfl (by simp [hl]) rfl ?_;conv=>whnf
 skip
 refine LoopK.inv QJ (fun x:Nat×Int=>⟨[(0,.p (UY l)),(3,.p (.int .i64 x.2)),(4,.p (.int .i64 x.1))],[]⟩) (fun x=>1<=x.1∧x.1<=l.length∧x1w (x.2::l.drop x.1)=x1w l) (fun x=>l.length-x.1) (1,l[0]) (Le.of_eq rfl) ⟨Nat.le_refl _,hl,by
  cases l with
  | nil=>simp at hl
  | cons a r=>rfl⟩ ?_
 rintro ⟨j,m⟩ ⟨h1,h2,h3⟩;simp only at h1 h2 h3 ⊢;rcases Nat.lt_or_ge j l.length with hj|hj
 ·rw [QD hj] at h3;conv=>whnf
  repeat' (first|((first|(refine iM fun _=>?_)|(refine iA fun _=>?_)|refine wI ?_|refine OpK.min2 rfl rfl rfl ?_);conv=>whnf)|(apply bD<;>intro _<;>first|omega|conv=>whnf))
  exact ⟨(j+1,if l[j]<m then l[j] else m),⟨by simp only;omega,hj,h3⟩,by simp only;omega,Le.of_eq rfl⟩
 ·rw [List.drop_eq_nil_of_le hj] at h3;conv=>whnf
  repeat' (first|(refine iM fun _=>?_;conv=>whnf)|(apply bD<;>intro _<;>first|omega|conv=>whnf))
  exact RetK.int h3
theorem w2b {α:Type} {f g:α->Nat} : ∀ {l:List α},(∀ x∈l,f x<=g x)->(∃ x∈l,f x<g x)->(l.map f).sum<(l.map g).sum
 | [],_,h=>by obtain ⟨x,hx,_⟩:=h;cases hx
 | a::r,h1,h2=>by
   have hle : ∀ {l:List α},(∀ x∈l,f x<=g x)->(l.map f).sum<=(l.map g).sum:=fun {l} h=>by
    induction l with
    | nil=>simp
    | cons b r ih =>
      simp only [map_cons,sum_cons];have:=ih fun x hx=>h x (mem_cons_of_mem _ hx);have:=h b mem_cons_self;omega
   simp only [map_cons,sum_cons];have h3:=h1 a mem_cons_self;have h4:=hle fun x hx=>h1 x (mem_cons_of_mem _ hx);obtain ⟨x,hx,h5⟩:=h2;rcases List.mem_cons.1 hx with rfl|hx
   ·omega
   ·have:=w2b (fun y hy=>h1 y (mem_cons_of_mem _ hy)) ⟨x,hx,h5⟩;omega
def muE (rows:List (List Int)) (at_:List Int) (n:Nat):Nat:=((List.range n).map fun i=>(rows.getD i []).length-(at_.getD i 0).toNat).sum
theorem z9v {n:Nat} {rows:List (List Int)} {at_:List Int} {a:Nat} (ha:a<n) (hl:at_.length=n) {k:Nat} (hk:at_.getD a 0=k) (hlt:k<(rows.getD a []).length):muE rows (at_.set a ((k:Int)+1)) n<muE rows at_ n:=by
 unfold muE;refine w2b (fun i _ => ?_) ⟨a,List.mem_range.2 ha,?_⟩
 ·rw [ZN (by omega)];split
  ·rename_i h;rw [<- h,hk];omega
  ·exact Nat.le_refl _
 ·rw [ZN (by omega),if_pos rfl,hk];omega
theorem x0e {n:Nat} {l:List Int} (h:l.Nodup) (hr : ∀ x∈l,0<=x∧x<n):l.length<=n:=by
 have:=HB (m:=(List.range n).map fun (k:Nat)=>(k:Int)) h fun x hx=>List.mem_map.2 ⟨x.toNat,List.mem_range.2 (by have:=hr x hx;omega),by have:=hr x hx;omega⟩;simpa using this
theorem w2k {l:List Bool} {i:Nat} (h:i<l.length):(l.map bv)[i]? = some (bv (l.getD i false)):=by
 rw [List.getElem?_map,List.getElem?_eq_getElem h,getD_eq_getElem?_getD,List.getElem?_eq_getElem h];rfl
theorem x3e {l:List Int} {i:Nat} (h:i<l.length):(l.map (AV.int .i64))[i]? = some (.int .i64 (l.getD i 0)):=by
 rw [List.getElem?_map,List.getElem?_eq_getElem h,getD_eq_getElem?_getD,List.getElem?_eq_getElem h];rfl
def w7u (n:Nat) (rows:List (List Int)) (r:AV):Prop := ∃ es,r=UY es∧EndsP n (rowE rows) es
theorem q1d (n:Nat) (hn:n<=5000) (g:List (List Int)×List (List Int)) (hg:XG n g.1):SpecP Tryz.prog 257 [KV g] (fun r=>w7u n g.1 r):=by
 refine sB NT Tryz.func257 rfl Tryz.call257 ?_;conv=>whnf
 have hl:((avI g.1).map AV.sl).length=n:=by simp [avI,hg.1]
 repeat' ((first|(refine iM fun _=>?_)|refine aR ?_|refine MkK.mk n (by rw [hl]) (by show 1*n<=140737488355328;omega) (by unfold maxLen;omega) ?_|refine MkK.mk n (by rw [hl]) (by show 8*n<=140737488355328;omega) (by unfold maxLen;omega) ?_);conv=>whnf)
 refine LoopK.inv QJ (fun x:Nat×List Int×List Bool×List Int=>⟨[(0,.p (KV g)),(3,.hd 2 0 x.2.1.length),(4,.hd 3 0 0),(5,.hd 0 0 n),(6,.hd 1 0 n),(26,.p (.int .i64 n)),(27,.p (.int .i64 x.1))],[(0,.own 4 1 (x.2.2.1.map bv)),(1,.own 3 1 (x.2.2.2.map (.int .i64))),(2,.own 3 1 (x.2.1.map (.int .i64))),(3,.own 3 1 [])]⟩)
  (fun x=>x.1<=n∧EndI n g.1 x.2.1 [] x.2.2.1 x.2.2.2 ∧ ∀ y:Int,0<=y∧y<x.1->y∈x.2.1) (fun x=>n-x.1) (0,[],List.replicate n false,List.replicate n 0)
  (Le.mk [(2,.own 3 1 []),(3,.own 3 1 [])] (by simp [Chunk.new0];exact ⟨rfl,rfl⟩) (by simp) (by simp) (.cons (.refl _) (.cons (.nil mem_cons_self) (.cons (.nil (mem_cons_of_mem _ mem_cons_self)) (.cons (.refl _) (.cons (.refl _) (.cons (.of_eq (by rw [hl];rfl)) (.cons (.refl _) .nil)))))))
    (.cons rfl (.of_eq (by rw [List.map_replicate];rfl)) (.cons rfl (.of_eq (by rw [List.map_replicate];rfl)) (.new mem_cons_self (.new (mem_cons_of_mem _ mem_cons_self) .nil)))))
  ⟨zero_le _,EndI.start n g.1,fun y hy=>by omega⟩ ?_
 rintro ⟨r,out,seen,at_⟩ ⟨h1,h2,h3⟩;simp only at h1 h2 h3 ⊢;have hsl:=h2.sl;have hal:=h2.al;rcases Nat.lt_or_ge r n with hr|hr;rotate_left 1
 ·conv=>whnf
  repeat' (apply bD<;>intro _<;>first|omega|conv=>whnf)
  have hall : ∀ x:Int,0<=x∧x<n->x∈out:=fun x hx=>h3 x (by omega);exact ⟨_,.hd rfl (by simp),out,rfl,h2.dfs.fin (fun x y hxy=>FB hg hxy.2) hall⟩
 have e1:=w2k (l:=seen) (i:=r) (by omega);have hstart : ∃ st s2,EndI n g.1 out st s2 at_∧(r:Int)∈out++st∧((seen.getD r false=true∧st=[]∧s2=seen)∨(seen.getD r false=false∧st=[(r:Int)]∧s2=seen.set r true)):=by
  cases hq:seen.getD r false with
  | true=>exact ⟨[],seen,h2,(h2.seen r (by omega)).1 (by simpa using hq),.inl ⟨rfl,rfl,rfl⟩⟩
  | false=>exact ⟨[(r:Int)],seen.set r true,h2.push (stack:=[]) (b:=r) (by omega) (by simpa using hq) trivial,by simp,.inr ⟨rfl,rfl,rfl⟩⟩
 obtain ⟨st0,seen0,h4,h5,h6⟩:=hstart;rcases h6 with ⟨hq,hst,hs0⟩|⟨hq,hst,hs0⟩;all_goals
  rw [hq] at e1;conv=>whnf
  repeat' (first|((first|refine And.intro rfl ?_|refine aD ?_|refine bP ?_|refine IdxL.mk r rfl (by omega) ?_|refine LdOwn.mk r 0 .tt (by omega) e1 ?_|refine LdOwn.mk r 0 .ff (by omega) e1 ?_|refine StOwn.mk r 0 .ff .tt (by omega) e1 (Nat.le_refl 1) rfl ?_|refine WO rfl (by simp) ?_);conv=>whnf)|(apply bD<;>intro _<;>first|omega|conv=>whnf))
  refine LoopK.inv QJ (fun x:List Int×List Int×List Bool×List Int=>⟨[(0,.p (KV g)),(3,.hd 2 0 x.1.length),(4,.hd 3 0 x.2.1.length),(5,.hd 0 0 n),(6,.hd 1 0 n),(26,.p (.int .i64 n)),(27,.p (.int .i64 r))],[(0,.own 4 1 (x.2.2.1.map bv)),(1,.own 3 1 (x.2.2.2.map (.int .i64))),(2,.own 3 1 (x.1.map (.int .i64))),(3,.own 3 1 (x.2.1.map (.int .i64)))]⟩)
   (fun x=>EndI n g.1 x.1 x.2.1 x.2.2.1 x.2.2.2∧(r:Int)∈x.1++x.2.1 ∧ ∀ y:Int,0<=y∧y<r->y∈x.1) (fun x=>muE g.1 x.2.2.2 n+(n-x.1.length)) (out,st0,seen0,at_)
   (Le.mk [] (by simp) (by simp) (by simp) (.cons (.refl _) (.cons (.refl _) (.cons (.of_eq (by first|(rw [hst];done)|(rw [hst];rfl))) (.cons (.refl _) (.cons (.refl _) (.cons (.refl _) (.cons (.refl _) .nil)))))))
     (.cons rfl (.of_eq (by rw [hs0];first|done|rfl|(rw [List.map_set];rfl))) (.cons rfl (.refl _) (.cons rfl (.refl _) (.cons rfl (.of_eq (by rw [hst];rfl)) .nil)))))
   ⟨h4,h5,h3⟩ ?_
  clear h4 h5 hst hs0 e1 hq hsl hal h2 h3;rintro ⟨o,stk,s,t⟩ ⟨h2,h3,h4⟩;simp only at h2 h3 h4 ⊢;have hsl:=h2.sl;have hal:=h2.al;have hol:o.length<=n:=x0e (by have:=h2.dfs.nd;rw [nodup_append] at this;exact this.1) fun x hx=>h2.dfs.rng x (List.mem_append.2 (.inl hx));rcases List.eq_nil_or_concat stk with rfl|⟨st,a,rfl⟩
  ·have hz:(([]:List Int).length)=0:=rfl;conv=>whnf
   repeat' (first|((first|(refine iM fun _=>?_)|refine wI ?_);conv=>whnf)|(apply bD<;>intro _<;>first|omega|conv=>whnf))
   exact ⟨(r+1,o,s,t),⟨hr,h2,fun y hy=>by
    rcases Int.lt_or_le y r with hyr|hyr
    ·exact h4 y ⟨hy.1,hyr⟩
    ·have:y=r:=by simp only at hy;omega
     rw [this];simpa using h3⟩,by simp only;omega,Le.of_eq rfl⟩
  ·rw [List.concat_eq_append] at h2 h3 ⊢;have ha:=h2.dfs.rng a (by simp);have hstl:(st++[a]).length=st.length+1:=by simp
   obtain ⟨hk0,hk1⟩:=h2.arng a ha;have e2:=x3e (l:=t) (i:=a.toNat) (by omega);have e3:((st++[a]).map (AV.int .i64))[st.length]? = some (.int .i64 a):=by simp
   have hrow:((avI g.1).map AV.sl)[a.toNat]? = some (.sl ((g.1.getD a.toNat []).map (.int .i64))):=by
    have:a.toNat<g.1.length:=by rw [hg.1];omega
    rw [getD_eq_getElem?_getD,List.getElem?_eq_getElem this];simp [avI,this]
   obtain ⟨k,hk⟩ : ∃ k:Nat,t.getD a.toNat 0=k:=⟨(t.getD a.toNat 0).toNat,by omega⟩;rw [hk] at e2 hk1;have hrl:((g.1.getD a.toNat []).map (AV.int .i64)).length=(g.1.getD a.toNat []).length:=length_map _;have hnd:=h2.dfs.nd;rcases Nat.lt_or_ge k (g.1.getD a.toNat []).length with hkl|hkl
   ·obtain ⟨b,hb⟩ : ∃ b,(g.1.getD a.toNat [])[k]? = some b:=⟨_,List.getElem?_eq_getElem hkl⟩;have hbe:(g.1.getD a.toNat [])[k]=b:=by rw [List.getElem?_eq_getElem hkl] at hb;exact Option.some.inj hb
    have hE:rowE g.1 a b:=⟨ha.1,List.mem_iff_getElem?.2 ⟨k,hb⟩⟩;have hbr:=FB hg hE.2;have hmu:=z9v (by omega) hal hk hkl;have e4:=w2k (l:=s) (i:=b.toNat) (by omega);have hstk:(st++[a]).length<=n:=x0e (List.nodup_append.1 hnd).2.1 fun x hx=>h2.dfs.rng x (List.mem_append.2 (.inr hx));have hms:(t.set a.toNat ((k:Int)+1)).map (AV.int .i64)=(t.map (AV.int .i64)).set a.toNat (.int .i64 ((k:Int)+1)):=List.map_set;have hkm:=h2.arng a ha;cases hq:s.getD b.toNat false with
    | true =>
      rw [hq] at e4;conv=>whnf
      repeat' (first|((first|(refine iM fun _=>?_)|refine dA ?_|refine And.intro rfl ?_|(refine iA fun _=>?_)|refine wI ?_|refine IdxL.mk st.length (by omega) (by omega) ?_|refine LdOwn.mk st.length 0 (.int .i64 a) (by omega) e3 ?_|refine IdxL.mk a.toNat (by omega) (by omega) ?_|refine LdOwn.mk a.toNat 0 (.int .i64 k) (by omega) e2 ?_|(refine IdxK.at (k:=a.toNat) (by omega) hrow rfl ?_)|refine IdxL.mk b.toNat (by omega) (by omega) ?_|refine LdOwn.mk b.toNat 0 .tt (by omega) e4 ?_|refine StOwn.mk a.toNat 0 (.int .i64 k) (.int .i64 (k+1)) (by omega) e2 (Nat.le_refl 1) rfl ?_);conv=>whnf)|(apply bD<;>intro _<;>first|omega|conv=>whnf))
      exact ⟨(o,st++[a],s,t.set a.toNat ((k:Int)+1)),⟨h2.step ha hk hb ((h2.seen b hbr).1 hq),h3,h4⟩,by simp only;omega,Le.mk [] (by simp) (by simp) (by simp) (.cons (.refl _) (.cons (.refl _) (.cons (.refl _) (.cons (.refl _) (.cons (.refl _) (.cons (.refl _) (.cons (.refl _) .nil))))))) (.cons rfl (.refl _) (.cons rfl (.of_eq (by rw [hms])) (.cons rfl (.refl _) (.cons rfl (.refl _) .nil))))⟩
    | false =>
      rw [hq] at e4;conv=>whnf
      repeat' (first|((first|(refine iM fun _=>?_)|refine dA ?_|refine And.intro rfl ?_|refine aD ?_|refine bP ?_|(refine iA fun _=>?_)|refine wI ?_|refine IdxL.mk st.length (by omega) (by omega) ?_|refine LdOwn.mk st.length 0 (.int .i64 a) (by omega) e3 ?_|refine IdxL.mk a.toNat (by omega) (by omega) ?_|refine LdOwn.mk a.toNat 0 (.int .i64 k) (by omega) e2 ?_|(refine IdxK.at (k:=a.toNat) (by omega) hrow rfl ?_)|refine IdxL.mk b.toNat (by omega) (by omega) ?_|refine LdOwn.mk b.toNat 0 .ff (by omega) e4 ?_|refine StOwn.mk a.toNat 0 (.int .i64 k) (.int .i64 (k+1)) (by omega) e2 (Nat.le_refl 1) rfl ?_|refine StOwn.mk b.toNat 0 .ff .tt (by omega) e4 (Nat.le_refl 1) rfl ?_|refine WO (by simp) (by simp;omega) ?_);conv=>whnf)|(apply bD<;>intro _<;>first|omega|conv=>whnf))
      have h8:=h2.push hbr hq (q4k st h2.dfs.path hE);exact ⟨(o,st++[a]++[b],s.set b.toNat true,t.set a.toNat ((k:Int)+1)),⟨h8.step ha hk hb (by simp),by rw [<- List.append_assoc];exact List.mem_append.2 (.inl h3),h4⟩,by simp only;omega,Le.mk [] (by simp) (by simp) (by simp) (.cons (.refl _) (.cons (.refl _) (.cons (.of_eq (by simp;rfl)) (.cons (.refl _) (.cons (.refl _) (.cons (.refl _) (.cons (.refl _) .nil))))))) (.cons rfl (.of_eq (by rw [List.map_set];rfl)) (.cons rfl (.of_eq (by rw [hms])) (.cons rfl (.refl _) (.cons rfl (.of_eq (by rw [hbe];simp;rfl)) .nil))))⟩
   ·have hkl2:k=(g.1.getD a.toNat []).length:=by omega
    have hp:=h2.pop (by rw [hk,hkl2]);have hol2:o.length+1<=n:=by
     have h7:=hp.dfs;have:=x0e (List.nodup_append.1 h7.nd).1 fun x hx=>h7.rng x (List.mem_append.2 (.inl hx));simpa using this
    conv=>whnf
    repeat' (first|((first|(refine iM fun _=>?_)|refine dA ?_|refine And.intro rfl ?_|refine aD ?_|refine bP ?_|refine wI ?_|refine IdxL.mk st.length (by omega) (by omega) ?_|refine LdOwn.mk st.length 0 (.int .i64 a) (by omega) e3 ?_|refine IdxL.mk a.toNat (by omega) (by omega) ?_|refine LdOwn.mk a.toNat 0 (.int .i64 k) (by omega) e2 ?_|(refine IdxK.at (k:=a.toNat) (by omega) hrow rfl ?_)|refine WO (by simp) (by simp;omega) ?_|refine SlK.mk 0 st.length rfl (by show ((st++[a]).length:Int)-1=_;omega) (by omega) (by omega) ?_);conv=>whnf)|(apply bD<;>intro _<;>first|omega|conv=>whnf))
    have h9:muE g.1 t n+(n-(o++[a]).length)<muE g.1 t n+(n-o.length):=by simp;omega
    exact ⟨(o++[a],st,s,t),⟨hp,by simpa [or_assoc,or_comm,or_left_comm] using h3,fun y hy=>List.mem_append.2 (.inl (h4 y hy))⟩,h9,(Le.cut (.same (.same (.same (.cut (es':=st.map (.int .i64)) ⟨[.int .i64 a],by simp⟩ .nil))))).trans (Le.mk [] (by simp) (by simp) (by simp) (.cons (.refl _) (.cons (.of_eq (by simp;rfl)) (.cons (.of_eq (by simp;rfl)) (.cons (.refl _) (.cons (.refl _) (.cons (.refl _) (.cons (.refl _) .nil))))))) (.cons rfl (.refl _) (.cons rfl (.refl _) (.cons rfl (.of_eq (by simp;rfl)) (.cons rfl (.refl _) .nil)))))⟩
def w2m (pre:List Bool) (rows:List (List Int)):List (List Int):=rows.map fun r=>r.filter fun b => !pre.getD b.toNat false
theorem x2i {pre:List Bool} {rows:List (List Int)} {x y:Int}:x0m (w2m pre rows) x y↔x0m rows x y∧pre.getD y.toNat false=false:=by
 unfold x0m w2m;simp only [getD_eq_getElem?_getD,List.getElem?_map];cases rows[x.toNat]? with
 | none=>simp
 | some r=>simp
theorem w5v {n:Nat} {pre:List Bool} {rows:List (List Int)} (h:XG n rows):XG n (w2m pre rows):=by
 refine ⟨by simp [w2m,h.1],fun r hr b hb => ?_⟩;obtain ⟨r',hr',rfl⟩:=List.mem_map.1 hr;exact h.2 r' hr' b (List.mem_filter.1 hb).1
structure SimW (pre:List Bool) (st st':List Bool×List Int):Prop where
 todo:st.2=st'.2
 len:st.1.length=st'.1.length
 mrk : ∀ k,st.1.getD k false=(pre.getD k false||st'.1.getD k false)
theorem SimW.see {pre:List Bool} {st st':List Bool×List Int} (h:SimW pre st st') {b:Int} (hb:b.toNat<st.1.length) (hp:pre.getD b.toNat false=false):SimW pre (JU st b) (JU st' b):=by
 have hm:=h.mrk b.toNat;rw [hp,Bool.false_or] at hm;unfold JU;rw [hm];cases st'.1.getD b.toNat false with
 | true=>exact h
 | false =>
   refine ⟨by simp only [cond_false];rw [h.todo],by simpa using h.len,fun k => ?_⟩;simp only [cond_false];rw [ZN hb,ZN (by rw [<- h.len];exact hb)];split
   ·simp
   ·exact h.mrk k
theorem SimW.skip {pre:List Bool} {st st':List Bool×List Int} (h:SimW pre st st') {b:Int} (hp:pre.getD b.toNat false=true):JU st b=st:=by
 unfold JU;rw [h.mrk,hp];rfl
theorem z8b (st:List Bool×List Int) (b:Int):(JU st b).1.length=st.1.length:=by
 unfold JU;cases st.1.getD b.toNat false<;>simp
theorem SimW.fold {n:Nat} {pre:List Bool} : ∀ (l:List Int) {st st':List Bool×List Int},SimW pre st st'->st.1.length=n->(∀ b∈l,0<=b∧b<n)->SimW pre (l.foldl JU st) ((l.filter fun b => !pre.getD b.toNat false).foldl JU st')∧(l.foldl JU st).1.length=n
 | [],_,_,h,hn,_=>⟨h,hn⟩
 | b::r,st,st',h,hn,hl=>by
   have hb:=hl b mem_cons_self;have hr : ∀ c∈r,0<=c∧c<n:=fun c hc=>hl c (mem_cons_of_mem _ hc);rw [List.foldl_cons];cases hp:pre.getD b.toNat false with
   | true =>
     rw [h.skip hp,List.filter_cons_of_neg (by rw [hp];simp)];exact SimW.fold r h hn hr
   | false =>
     rw [List.filter_cons_of_pos (by rw [hp];simp),List.foldl_cons];exact SimW.fold r (h.see (by omega) hp) (by rw [z8b];exact hn) hr
theorem x4e {n:Nat} {pre:List Bool} {rows:List (List Int)} (hr:XG n rows) : ∀ (k i:Nat) {st st':List Bool×List Int},SimW pre st st'->st.1.length=n->SimW pre (ZX rows k i st) (ZX (w2m pre rows) k i st')
 | 0,_,_,_,h,_=>h
 | k+1,i,st,st',h,hn=>by
   rw [ZX,ZX,<- h.todo];cases ha:st.2[i]? with
   | none=>exact h
   | some a =>
     simp only;have hrow : ∀ b∈rows.getD a.toNat [],0<=b∧b<n:=fun b hb=>FB hr hb;have he:(w2m pre rows).getD a.toNat []=(rows.getD a.toNat []).filter fun b => !pre.getD b.toNat false:=by
      unfold w2m;simp only [getD_eq_getElem?_getD,List.getElem?_map];cases rows[a.toNat]? with
      | none=>simp
      | some r=>simp
     rw [he];obtain ⟨h1,h2⟩:=SimW.fold (n:=n) _ h hn hrow;exact x4e hr k (i+1) h1 h2
theorem z4e {n:Nat} {pre:List Bool} {rows:List (List Int)} (hr:XG n rows) (hp:pre.length=n) {r:Int} (hrr:0<=r∧r<n) (hu:pre.getD r.toNat false=false) :
  (∀ x,x∈(ZX rows (n+1) 0 (pre.set r.toNat true,[r])).2↔Rch (fun a b=>x0m rows a b∧pre.getD b.toNat false=false) r x) ∧
  (∀ x:Int,0<=x∧x<n->((ZX rows (n+1) 0 (pre.set r.toNat true,[r])).1.getD x.toNat false=true↔pre.getD x.toNat false=true∨x∈(ZX rows (n+1) 0 (pre.set r.toNat true,[r])).2)):=by
 have e0:JU (List.replicate n false,[]) r=((List.replicate n false).set r.toNat true,[r]):=by
  unfold JU;have:(List.replicate n false).getD r.toNat false=false:=by
   rw [getD_eq_getElem?_getD,List.getElem?_replicate];split<;>rfl
  simp only [this,cond_false,List.nil_append]
 obtain ⟨h1,h2,_⟩:=(WkM.start n).see hrr;rw [e0] at h1 h2;have hsim:SimW pre (pre.set r.toNat true,[r]) ((List.replicate n false).set r.toNat true,[r]):=⟨rfl,by simp [hp],fun k=>by
  rw [ZN (by omega),ZN (by simp;omega)];split
  ·simp
  ·have:(List.replicate n false).getD k false=false:=by
    rw [getD_eq_getElem?_getD,List.getElem?_replicate];split<;>rfl
   rw [this,Bool.or_false]⟩
 have hw:=x4e hr (n+1) 0 hsim (by simpa using hp);obtain ⟨h3,h4,h5,h6⟩:=q4g (w5v (pre:=pre) hr) (n+1) 0 h1 (zero_le _) (by omega) (fun m a hm=>by omega);refine ⟨fun x => ?_,fun x hx => ?_⟩
 ·rw [hw.todo];constructor
  ·intro hx;exact h6 (fun x=>Rch (fun a b=>x0m rows a b∧pre.getD b.toNat false=false) r x) (fun x hx=>by rw [List.mem_singleton.1 hx];exact .refl) (fun x b h7 h8 => .tail h7 (x2i.1 h8)) x hx
  ·intro hx;exact hx.closed (S:=fun x=>x∈(ZX (w2m pre rows) (n+1) 0 ((List.replicate n false).set r.toNat true,[r])).2) (fun x y h7 h8=>h5 x h7 y (x2i.2 h8)) (h4 r (by simp))
 ·rw [hw.mrk,hw.todo,h3.mem,Bool.or_eq_true];exact ⟨fun h=>h.imp id fun h=>⟨hx,h⟩,fun h=>h.imp id fun h=>h.2⟩
theorem x0t {n:Nat} {a:Int} (h:0<=a∧a<n):ZL n a=true:=by
 unfold ZL;simpa using h
structure MinP (E:Int->Int->Prop) (x v:Int):Prop where
 scc:sccP E x v
 le : ∀ y,sccP E x y->v<=y
theorem MinP.uniq {E:Int->Int->Prop} {x v w:Int} (h:MinP E x v) (h':MinP E x w):v=w:=Int.le_antisymm (h.le w h'.scc) (h'.le v h.scc)
def LJ (n:Nat) (rows:List (List Int)):List Int:=(List.range n).map fun (a:Nat)=>x1w ((HI 0 (ZE rows [(a:Int)])).filter fun b=>(HI 0 (ZE rows [b])).contains (a:Int))
theorem w0m {n:Nat} {rows:List (List Int)} (hr:XG n rows) {x y:Int} (hx:0<=x):Rch (rowE rows) x y↔Rch (x0m rows) x y:=by
 refine ⟨fun h=>h.mono fun _ _ h=>h.2,fun h => ?_⟩;exact (h.closed (S:=fun y:Int=>0<=y∧Rch (rowE rows) x y) (fun a b ⟨h1,h2⟩ h3=>⟨(FB hr h3).1,.tail h2 ⟨h1,h3⟩⟩) ⟨hx,.refl⟩).2
theorem z0x {n:Nat} {rows:List (List Int)} (hr:XG n rows) {x y:Int} (hx:0<=x∧x<n) (h:Rch (rowE rows) x y):0<=y∧y<n :=
 h.closed (S:=fun y:Int=>0<=y∧y<n) (fun _ _ _ h=>FB hr h.2) hx
theorem x6x {n:Nat} {rows:List (List Int)} (hr:XG n rows) {x:Int} (hx:0<=x∧x<n) (y:Int):y∈HI 0 (ZE rows [x])↔Rch (rowE rows) x y:=by
 rw [x4r hr,w0m hr hx.1];constructor
 ·rintro ⟨a,ha,_,h⟩;rw [List.mem_singleton.1 ha] at h;exact h
 ·intro h;exact ⟨x,by simp,x0t hx,h⟩
theorem FV (n:Nat) (rows:List (List Int)):(LJ n rows).length=n:=by simp [LJ]
theorem q0q {n:Nat} {rows:List (List Int)} (hr:XG n rows) {x:Int} (hx:0<=x∧x<n):MinP (rowE rows) x ((LJ n rows).getD x.toNat 0):=by
 have e:(LJ n rows).getD x.toNat 0=x1w ((HI 0 (ZE rows [x])).filter fun b=>(HI 0 (ZE rows [b])).contains x):=by
  unfold LJ;rw [getD_eq_getElem?_getD,List.getElem?_map,List.getElem?_range (by omega)];have:((x.toNat:Nat):Int)=x:=by omega
  simp [this]
 have hm : ∀ y,y∈(HI 0 (ZE rows [x])).filter (fun b=>(HI 0 (ZE rows [b])).contains x)↔sccP (rowE rows) x y:=fun y=>by
  rw [List.mem_filter,x6x hr hx,List.contains_iff_mem];constructor
  ·rintro ⟨h1,h2⟩;exact ⟨h1,(x6x hr (z0x hr hx h1) x).1 h2⟩
  ·rintro ⟨h1,h2⟩;exact ⟨h1,(x6x hr (z0x hr hx h1) x).2 h2⟩
 rw [e];obtain ⟨h1,h2⟩:=x2a (l:=(HI 0 (ZE rows [x])).filter fun b=>(HI 0 (ZE rows [b])).contains x) (List.length_pos_of_mem ((hm x).2 (sccP.refl x)));exact ⟨(hm _).1 h1,fun y hy=>h2 y ((hm y).2 hy)⟩
structure PartI (n:Nat) (E:Int->Int->Prop) (es:List Int) (m:Nat) (part:List Int) (seen:List Bool):Prop where
 sl:seen.length=n
 pl:part.length=n
 seen : ∀ x:Int,0<=x∧x<n->(seen.getD x.toNat false=true↔SeenP E es m x)
 min : ∀ x:Int,0<=x∧x<n->SeenP E es m x->MinP E x (part.getD x.toNat 0)
theorem PartI.start {n:Nat} {E:Int->Int->Prop} {es:List Int}:PartI n E es es.length (List.replicate n 0) (List.replicate n false):=by
 have hno : ∀ x,¬SeenP E es es.length x:=fun x ⟨j,y,h1,h2,_⟩=>by
  have:=(List.getElem?_eq_some_iff.1 h2).1;omega
 refine ⟨by simp,by simp,fun x _ => ?_,fun x _ hx=>absurd hx (hno x)⟩;rw [getD_eq_getElem?_getD,List.getElem?_replicate];have:=hno x;split<;>simp [this]
def VI (l:List Int) (v:Int) (part:List Int):List Int:=l.foldl (fun p a=>p.set a.toNat v) part
theorem BM (v:Int) : ∀ (l part:List Int),(VI l v part).length=part.length
 | [],_=>rfl
 | a::r,part=>by
   show (VI r v (part.set a.toNat v)).length=_;rw [BM v r];simp
theorem q5h {n:Nat} (v:Int) {x:Int} (hx:0<=x∧x<n) : ∀ (l:List Int) {part:List Int},part.length=n->(∀ a∈l,0<=a∧a<n)->(x∈l->(VI l v part).getD x.toNat 0=v)∧(x∉l->(VI l v part).getD x.toNat 0=part.getD x.toNat 0)
 | [],_,_,_=>⟨by simp,fun _=>rfl⟩
 | a::r,part,hl,ha=>by
   have ha0:=ha a mem_cons_self;have e:VI (a::r) v part=VI r v (part.set a.toNat v):=rfl;obtain ⟨h1,h2⟩:=q5h v hx r (part:=part.set a.toNat v) (by simpa using hl) fun b hb=>ha b (mem_cons_of_mem _ hb);have hg:(part.set a.toNat v).getD x.toNat 0=if a.toNat=x.toNat then v else part.getD x.toNat 0:=ZN (by omega);rw [e];by_cases hxr:x∈r
   ·exact ⟨fun _=>h1 hxr,fun h=>absurd (mem_cons_of_mem _ hxr) h⟩
   ·rw [h2 hxr,hg];constructor
    ·intro h;rcases List.mem_cons.1 h with rfl|h
     ·rw [if_pos rfl]
     ·exact absurd h hxr
    ·intro h;have:x≠a:=fun h'=>h (by rw [h'];exact mem_cons_self);rw [if_neg (by omega)]
theorem PartI.part {n:Nat} {g:List (List Int)×List (List Int)} (hg:XG n g.1) (hg2:XG n g.2) (hm : ∀ x y,rowE g.2 x y↔rowE g.1 y x) {es:List Int} (he:EndsP n (rowE g.1) es) {m:Nat} {part:List Int} {seen:List Bool} (h:PartI n (rowE g.1) es (m+1) part seen) {r:Int} (hr:es[m]? = some r) (hu:seen.getD r.toNat false=false) :
  (∀ x∈(ZX g.2 (n+1) 0 (seen.set r.toNat true,[r])).2,0<=x∧x<n)∧0<(ZX g.2 (n+1) 0 (seen.set r.toNat true,[r])).2.length∧wkInv n (seen.set r.toNat true,[r]) ∧
  PartI n (rowE g.1) es m (VI (ZX g.2 (n+1) 0 (seen.set r.toNat true,[r])).2 (x1w (ZX g.2 (n+1) 0 (seen.set r.toNat true,[r])).2) part) (ZX g.2 (n+1) 0 (seen.set r.toNat true,[r])).1:=by
 have hrr:=(he.mem r).1 (List.mem_of_getElem? hr);have hsl:=h.sl;have hns : ¬SeenP (rowE g.1) es (m+1) r:=fun hs=>by rw [(h.seen r hrr).2 hs] at hu;cases hu
 obtain ⟨h1,h2⟩:=z4e hg2 h.sl hrr hu;have hin : ∀ x y,rowE g.1 x y->(0<=x∧x<n)∧0<=y∧y<n:=fun x y hxy=>⟨FB hg2 ((hm y x).2 hxy).2,FB hg hxy.2⟩;have hback:=z4t hin he hr hns;have hrel : ∀ x,Rch (fun a b=>x0m g.2 a b∧seen.getD b.toNat false=false) r x↔Rch (fun a b=>rowE g.1 b a ∧ ¬SeenP (rowE g.1) es (m+1) b) r x:=fun x=>by
  constructor
  ·intro hx;exact (hx.closed (S:=fun x:Int=>(0<=x∧x<n)∧Rch (fun a b=>rowE g.1 b a ∧ ¬SeenP (rowE g.1) es (m+1) b) r x) (fun a b ⟨h3,h4⟩ ⟨h5,h6⟩=>by
    have hb:=FB hg2 h5;refine ⟨hb,.tail h4 ⟨(hm a b).1 ⟨h3.1,h5⟩,fun hs => ?_⟩⟩;rw [(h.seen b hb).2 hs] at h6;cases h6) ⟨hrr,.refl⟩).2
  ·intro hx;refine hx.mono fun a b ⟨h3,h4⟩=>⟨((hm a b).2 h3).2,?_⟩;have hb:=(hin b a h3).1;cases hq:seen.getD b.toNat false with
   | true=>exact absurd ((h.seen b hb).1 hq) h4
   | false=>rfl
 have hmem : ∀ x,x∈(ZX g.2 (n+1) 0 (seen.set r.toNat true,[r])).2↔sccP (rowE g.1) r x:=fun x=>by rw [h1,hrel,hback]
 have hrng : ∀ x∈(ZX g.2 (n+1) 0 (seen.set r.toNat true,[r])).2,0<=x∧x<n:=fun x hx=>z0x hg hrr ((hmem x).1 hx).1;have hpos:0<(ZX g.2 (n+1) 0 (seen.set r.toNat true,[r])).2.length:=List.length_pos_of_mem ((hmem r).2 (sccP.refl r));have hwk:wkInv n (seen.set r.toNat true,[r]):=by
  refine ⟨by simpa using h.sl,?_,fun x hx=>by rw [List.mem_singleton.1 hx];exact hrr⟩;have hlt:r.toNat<(seen.set r.toNat true).length:=by simp;omega
  show 1<=_;exact List.count_pos_iff.2 (List.mem_iff_getElem.2 ⟨r.toNat,hlt,by simp⟩)
 have hwl:(ZX g.2 (n+1) 0 (seen.set r.toNat true,[r])).1.length=n:=(FY hg2 _ _ hwk).1;generalize ZX g.2 (n+1) 0 (seen.set r.toNat true,[r])=w at hmem hrng hpos hwl h2 ⊢;obtain ⟨h7,h8⟩:=x2a hpos;refine ⟨hrng,hpos,hwk,hwl,by rw [BM];exact h.pl,fun x hx => ?_,fun x hx hs => ?_⟩
 ·rw [h2 x hx,hmem,h.seen x hx,x1v hr]
 ·obtain ⟨h3,h4⟩:=q5h (x1w w.2) hx w.2 h.pl hrng;by_cases hxw:x∈w.2
  ·rw [h3 hxw];have hsx:=(hmem x).1 hxw;exact ⟨hsx.symm.trans ((hmem _).1 h7),fun y hy=>h8 y ((hmem y).2 (hsx.trans hy))⟩
  ·rw [h4 hxw];refine h.min x hx ?_;rcases (x1v hr x).1 hs with h5|h5
   ·exact h5
   ·exact absurd ((hmem x).2 h5) hxw
theorem PartI.fin {n:Nat} {rows:List (List Int)} (hr:XG n rows) {es:List Int} (he:EndsP n (rowE rows) es) {part:List Int} {seen:List Bool} (h:PartI n (rowE rows) es 0 part seen):part=LJ n rows:=by
 refine List.ext_getElem? fun i => ?_;rcases Nat.lt_or_ge i n with hi|hi
 ·have hx:0<=(i:Int)∧(i:Int)<n:=by omega
  have h1:=h.min i hx (w0g he hx);have h2:=q0q hr hx;have h3:=h1.uniq h2;have hp1:i<part.length:=by rw [h.pl];exact hi
  have hp2:i<(LJ n rows).length:=by rw [FV];exact hi
  simpa [getD_eq_getElem?_getD,hp1,hp2] using h3
 ·rw [List.getElem?_eq_none (by rw [h.pl];exact hi),List.getElem?_eq_none (by rw [FV];exact hi)]
theorem LX (n:Nat) (hn:n<=5000) (g:List (List Int)×List (List Int)) (hg:XG n g.1) (hg2:XG n g.2) (hgm : ∀ x y,rowE g.2 x y↔rowE g.1 y x):SpecP Tryz.prog 172 [KV g] (fun r=>r=UY (LJ n g.1)):=by
 refine sB BV Tryz.func172 rfl Tryz.call172 ?_;conv=>whnf
 have hl:((avI g.1).map AV.sl).length=n:=by simp [avI,hg.1]
 repeat' ((first|(refine iM fun _=>?_)|refine aR ?_|refine wI ?_|refine MkK.mk n (by rw [hl]) (by show 1*n<=140737488355328;omega) (by unfold maxLen;omega) ?_|refine MkK.mk n (by rw [hl]) (by show 8*n<=140737488355328;omega) (by unfold maxLen;omega) ?_|(refine CallK.pure (q1d n hn g hg) (.cons (Sub.refl _) .nil) ?_;rintro _ ⟨es,rfl,he⟩));conv=>whnf)
 have hesl:es.length<=n:=by
  have h1:=he.nd;exact x0e h1 fun x hx=>(he.mem x).1 hx
 have hml:(es.map (AV.int .i64)).length=es.length:=length_map _;refine LoopK.inv QJ (fun x:Nat×List Int×List Bool=>⟨[(0,.p (KV g)),(3,.hd 0 0 n),(4,.hd 1 0 n),(5,.p (UY es)),(6,.p (.int .i64 ((x.1:Int)-1)))],[(0,.own 3 1 (x.2.1.map (.int .i64))),(1,.own 4 1 (x.2.2.map bv))]⟩)
  (fun x=>x.1<=es.length∧PartI n (rowE g.1) es x.1 x.2.1 x.2.2) (fun x=>x.1) (es.length,List.replicate n 0,List.replicate n false)
  (Le.mk [] (by simp) (by simp) (by simp) (.cons (.refl _) (.cons (.of_eq rfl) (.cons (.of_eq rfl) (.cons (.refl _) (.cons (.of_eq (by rw [hml];rfl)) .nil)))))
    (.cons rfl (.of_eq (by rw [List.map_replicate];rfl)) (.cons rfl (.of_eq (by rw [List.map_replicate];rfl)) .nil)))
  ⟨Nat.le_refl _,PartI.start⟩ ?_
 rintro ⟨m,part,seen⟩ ⟨h1,h2⟩;simp only at h1 h2 ⊢;have hsl:=h2.sl;have hpl:=h2.pl;cases m with
 | zero =>
   conv=>whnf
   repeat' (apply bD<;>intro _<;>first|omega|conv=>whnf)
   exact ⟨_,.hd rfl (by simp [hpl]),by rw [h2.fin hg he];rfl⟩
 | succ m =>
   obtain ⟨r,hr⟩ : ∃ r,es[m]? = some r:=⟨_,List.getElem?_eq_getElem (by omega)⟩;have hrr:=(he.mem r).1 (List.mem_of_getElem? hr);have hre:es[m]=r:=by rw [List.getElem?_eq_getElem (by omega)] at hr;exact Option.some.inj hr
   have hra:(es.map (AV.int .i64))[m]? = some (.int .i64 r):=by rw [List.getElem?_map,hr];rfl
   have e1:=w2k (l:=seen) (i:=r.toNat) (by omega);cases hq:seen.getD r.toNat false with
   | true =>
     rw [hq] at e1;have hsk:=z7o hr ((h2.seen r hrr).1 hq);conv=>whnf
     repeat' (first|((first|refine And.intro rfl ?_|refine wI ?_|(refine IdxK.at (k:=m) (by omega) hra rfl ?_)|refine IdxL.mk r.toNat (by omega) (by omega) ?_|refine LdOwn.mk r.toNat 0 .tt (by omega) e1 ?_);conv=>whnf)|(apply bD<;>intro _<;>first|omega|conv=>whnf))
     exact ⟨(m,part,seen),⟨by simp only;omega,h2.sl,h2.pl,fun x hx=>by rw [h2.seen x hx,hsk],fun x hx hs=>h2.min x hx ((hsk x).1 hs)⟩,Nat.lt_succ_self m,Le.of_eq (by rw [show ((m+1:Nat):Int)-1-1=(m:Int)-1 by omega])⟩
   | false =>
     rw [hq] at e1;obtain ⟨h3,h4,h5,h6⟩:=h2.part hg hg2 hgm he hr hq;conv=>whnf
     repeat' (first|((first|refine dA ?_|refine And.intro rfl ?_|refine aD ?_|(refine IdxK.at (k:=m) (by omega) hra rfl ?_)|refine IdxL.mk r.toNat (by omega) (by omega) ?_|refine LdOwn.mk r.toNat 0 .ff (by omega) e1 ?_|refine StOwn.mk r.toNat 0 .ff .tt (by omega) e1 (Nat.le_refl 1) rfl ?_|refine BsK.own (fun x hx=>by rcases List.mem_singleton.1 hx with rfl;rfl) rfl ?_);conv=>whnf)|(apply bD<;>intro _<;>first|omega|conv=>whnf))
     have hwl:(ZX g.2 (n+1) 0 (seen.set r.toNat true,[r])).1.length=n:=h6.sl;rw [show (seen.map bv).set r.toNat AV.tt=(seen.set r.toNat true).map bv by rw [List.map_set];rfl];refine CallK.heap [(1000,1),(2000,2)] 0 (ArgsH.cons (LSub.refl _) (ArgsH.cons (LSub.refl _) (ArgsH.cons (LSub.refl _) ArgsH.nil))) (by refine BlksH.cons (j:=1) rfl rfl ?_ ?_;exact CSub.refl _;refine BlksH.cons (j:=2) rfl rfl ?_ ?_;exact CSub.refl _;exact BlksH.nil) (q7i n hn g.2 hg2 (seen.set r.toNat true,[r]) h5) rfl rfl ?_;rintro l' H' ⟨rfl,rfl⟩;conv=>whnf
     have hwn:(ZX g.2 (n+1) 0 (seen.set r.toNat true,[r])).2.length<=n:=HK (FY hg2 _ _ h5);generalize ZX g.2 (n+1) 0 (seen.set r.toNat true,[r])=w at h3 h4 h6 hwl hwn ⊢;repeat' ((first|(refine iM fun _=>?_)|(refine QI (BQ w.2 h4) (.cons (.hd rfl (by simp)) .nil) (by rintro _ rfl;rfl) ?_;rintro _ rfl));conv=>whnf)
     refine LoopK.inv QJ (fun x:Nat=>⟨[(0,.p (KV g)),(3,.hd 0 0 n),(4,.hd 1 0 n),(5,.p (UY es)),(6,.p (.int .i64 (((m+1:Nat):Int)-1))),(8,.p (.int .i64 (x1w w.2))),(60,.hd 2 0 w.2.length),(61,.p (.int .i64 w.2.length)),(62,.p (.int .i64 x))],[(1,.own 4 1 (w.1.map bv)),(2,.own 3 1 (w.2.map (.int .i64))),(0,.own 3 1 ((VI (w.2.take x) (x1w w.2) part).map (.int .i64)))]⟩)
      (fun x=>x<=w.2.length) (fun x=>w.2.length-x) 0 (Le.of_eq rfl) (zero_le _) ?_
     intro q hqw;rcases Nat.lt_or_ge q w.2.length with hq2|hq2
     ·have hwr:=h3 _ (List.getElem_mem hq2);have e4:=x3e (l:=VI (w.2.take q) (x1w w.2) part) (i:=w.2[q].toNat) (by rw [BM];omega);have e5:VI (w.2.take (q+1)) (x1w w.2) part=(VI (w.2.take q) (x1w w.2) part).set w.2[q].toNat (x1w w.2):=by
       unfold VI;rw [List.take_succ_eq_append_getElem hq2,List.foldl_append];rfl
      generalize VI (w.2.take q) (x1w w.2) part=pt at e4 e5 ⊢;conv=>whnf
      repeat' (first|((first|refine And.intro rfl ?_|refine wI ?_|refine IdxL.mk q (by omega) (by omega) ?_|refine LdOwn.mk q 0 (.int .i64 w.2[q]) (by omega) (by simp [hq2]) ?_|refine IdxL.mk w.2[q].toNat (by omega) (by omega) ?_|refine StOwn.mk w.2[q].toNat 0 (.int .i64 (pt.getD w.2[q].toNat 0)) (.int .i64 (x1w w.2)) (by omega) e4 (Nat.le_refl 1) rfl ?_);conv=>whnf)|(apply bD<;>intro _<;>first|omega|conv=>whnf))
      exact ⟨q+1,hq2,by omega,Le.of_eq (by rw [e5,List.map_set];rfl)⟩
     ·rw [List.take_of_length_le hq2];conv=>whnf
      repeat' (first|(refine wI ?_;conv=>whnf)|(apply bD<;>intro _<;>first|omega|conv=>whnf))
      exact ⟨(m,VI w.2 (x1w w.2) part,w.1),⟨by simp only;omega,h6⟩,Nat.lt_succ_self m,Le.mk [] (by simp) (by simp) (by simp) (.cons (.refl _) (.cons (.refl _) (.cons (.refl _) (.cons (.refl _) (.cons (.of_eq (by rw [show (m:Int)=((m+1:Nat):Int)-1 by omega];rfl)) .nil))))) (.cons rfl (.refl _) (.cons rfl (.refl _) .nil))⟩
end Go.Ab
