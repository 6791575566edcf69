/- LAW: what must hold of a program, told without the places of faults. -/
import Derived.Test.YtlhblcpmfnkjpaaGreatDomA5
import Derived.Test.YtlhblcpmfnkjpaaGreatDomA9
import Derived.Test.YtlhblcpmfnkjpaaGreatDomA13
import Derived.Test.YtlhblcpmfnkjpaaGreatDomA14
import Derived.Test.YtlhblcpmfnkjpaaGreatDomA15
import Derived.Test.YtlhblcpmfnkjpaaGreatDomA17
set_option linter.unusedSimpArgs false
set_option linter.unusedVariables false
set_option maxRecDepth 100000
set_option maxHeartbeats 16000000
open List (append_nil flatMap_cons length_append length_map map_cons mem_cons_of_mem mem_cons_self nil_append nodup_append take_of_length_le)
open Nat (zero_le)
namespace Go.Ab
open Go.Proofs
theorem q5k (l:List Str) (x:Str):inS l x=l.any fun s=>x==s:=by
 unfold inS;congr 1;funext s;exact Bool.beq_comm
theorem ZI {l:List Str}:XH l=false↔l.Nodup:=by
 refine ⟨w5u,fun h => ?_⟩;unfold XH;rw [List.any_eq_false];intro i hi;rw [List.mem_range] at hi;rw [Bool.not_eq_true,List.any_eq_false];intro s hs he;rw [List.getElem?_eq_getElem hi] at he;have he:l[i]=s:=eq_of_beq he;obtain ⟨k,hk,rfl⟩:=List.mem_iff_getElem.1 hs;rw [List.length_take] at hk;rw [List.getElem_take] at he;have:=(List.getElem_inj h).1 he;omega
theorem q0k : ∀ (l seen:List Str),seen.Nodup->((VO seen l).isSome=true↔(seen++l).Nodup)
 | [],seen,h=>by rw [VO,append_nil];exact ⟨fun _=>h,fun _=>rfl⟩
 | n::r,seen,h=>by
   rw [VO];cases hc:(seen.any fun s=>n==s) with
   | true =>
     rw [cond_true];obtain ⟨s,hs,he⟩:=List.any_eq_true.1 hc;have he:n=s:=eq_of_beq he;refine ⟨fun h=>by (cases h),fun h2 => ?_⟩;rw [nodup_append] at h2;exact absurd rfl (h2.2.2 s hs n mem_cons_self |> fun hh=>he▸hh)
   | false =>
     rw [cond_false];have hn:n∉seen:=fun hm=>by
      have:=List.any_eq_false.1 hc n hm;simp at this
     have h1:(seen++[n]).Nodup:=by
      rw [nodup_append];exact ⟨h,by simp,fun a ha b hb e=>hn (by rw [<- List.mem_singleton.1 hb,<- e];exact ha)⟩
     rw [q0k r (seen++[n]) h1,List.append_assoc];rfl
theorem x8f (f:Pr) : ∀ (its:List Item) (seen:List Str),seen.Nodup->((∃ s,YP f its seen = .ok s)↔(∀ it∈its,VJ f it=true)∧(seen++its.flatMap fun it=>it.s.labels).Nodup)
 | [],seen,h=>by
   rw [YP];refine ⟨fun _=>⟨fun _ hh=>(by cases hh),by simpa using h⟩,fun _=>⟨seen,rfl⟩⟩
 | it::r,seen,h=>by
   have hj:=q0k it.s.labels seen h;rw [YP];cases hq:VO seen it.s.labels with
   | none =>
     rw [hq] at hj;refine ⟨fun ⟨s,hs⟩=>by (cases hs),fun ⟨_,h2⟩ => ?_⟩;have:(seen++it.s.labels).Nodup:=by
      rw [flatMap_cons,<- List.append_assoc] at h2;exact (List.nodup_append.1 h2).1
     have:=hj.2 this;cases this
   | some s =>
     obtain rfl:=q1z hq;rw [hq] at hj;have hn:=hj.1 rfl;simp only;cases hl:VJ f it with
     | false =>
       rw [cond_false];refine ⟨fun ⟨s,hs⟩=>by (cases hs),fun ⟨h1,_⟩ => ?_⟩;have:=h1 it mem_cons_self;rw [hl] at this;cases this
     | true =>
       rw [cond_true,x8f f r _ hn,flatMap_cons,List.append_assoc];constructor
       ·rintro ⟨h1,h2⟩;refine ⟨fun x hx => ?_,h2⟩;rcases List.mem_cons.1 hx with rfl|hx
        ·exact hl
        ·exact h1 x hx
       ·rintro ⟨h1,h2⟩;exact ⟨fun x hx=>h1 x (mem_cons_of_mem _ hx),h2⟩
theorem x1n (f:Pr) : ∀ (its:List Item) (seen s:List Str),YP f its seen = .ok s->s=seen++its.flatMap fun it=>it.s.labels
 | [],seen,s,h=>by rw [YP] at h;cases h;simp
 | it::r,seen,s,h=>by
   rw [YP] at h;cases hq:VO seen it.s.labels with
   | none=>rw [hq] at h;cases h
   | some s2 =>
     obtain rfl:=q1z hq;rw [hq] at h;simp only at h;cases hl:VJ f it with
     | false=>rw [hl] at h;cases h
     | true =>
       rw [hl,cond_true] at h;rw [x1n f r _ s h,flatMap_cons,List.append_assoc]
def q9v (f:Pr):List Str:=(flL f.body).flatMap S.labels++f.fin
def DL (p:Pg) (j:Nat) (f:Pr):Prop:=(∀ it∈itsOf p j f,VJ f it=true)∧(q9v f).Nodup
theorem x2x (p:Pg) (j:Nat) (f:Pr):((itsOf p j f).flatMap fun it=>it.s.labels)=(flL f.body).flatMap S.labels:=by
 unfold itsOf;rw [<- q0g (j:Nat) 0 (-1) 0 (QR p.procs j) f.body,List.flatMap_map]
theorem x2i {p:Pg} {j:Nat} {f:Pr} (hj:p.procs[j]? = some f):YH p j=none↔DL p j f:=by
 unfold YH DL q9v;rw [hj];simp only;have h1:=x8f f (itsOf p j f) [] List.nodup_nil;rw [nil_append,x2x] at h1;have h0:YP f (itL (j:Nat) 0 (-1) 0 (QR p.procs j) f.body) []=YP f (itsOf p j f) []:=rfl;rw [h0];cases hq:YP f (itsOf p j f) [] with
 | error id =>
   rw [hq] at h1;refine ⟨fun h=>by (cases h),fun ⟨h2,h3⟩ => ?_⟩;obtain ⟨s,hs⟩:=h1.2 ⟨h2,(List.nodup_append.1 h3).1⟩;cases hs
 | ok seen =>
   rw [hq] at h1;have hs:=x1n f _ _ _ hq;rw [nil_append,x2x] at hs;obtain ⟨h2,h3⟩:=h1.1 ⟨seen,rfl⟩;have hJ:=q0k f.fin seen (by rw [hs];exact h3);simp only;rw [<- hs];cases hq2:VO seen f.fin with
   | none =>
     rw [hq2] at hJ;refine ⟨fun h=>by (cases h),fun ⟨_,h4⟩ => ?_⟩;have:=hJ.2 h4;cases this
   | some s =>
     rw [hq2] at hJ;exact ⟨fun _=>⟨h2,hJ.1 rfl⟩,fun _=>rfl⟩
theorem w4n {p:Pg} (hs:(QA p).1=0):(NI p).1=0 ↔ ∀ j f,p.procs[j]? = some f->DL p j f:=by
 unfold NI;rw [if_neg (by omega)];cases hf:(List.range p.procs.length).findSome? (YH p) with
 | some a =>
   refine ⟨fun h=>by simp at h,fun h => ?_⟩;obtain ⟨j,hj,hq⟩:=List.exists_of_findSome?_eq_some hf;rw [List.mem_range] at hj;have:=(x2i (List.getElem?_eq_getElem hj)).2 (h j _ (List.getElem?_eq_getElem hj));rw [this] at hq;cases hq
 | none =>
   refine ⟨fun _ j f hj => ?_,fun _=>rfl⟩;have hlt:j<p.procs.length:=(List.getElem?_eq_some_iff.1 hj).1;exact (x2i hj).1 (List.findSome?_eq_none_iff.1 hf j (List.mem_range.2 hlt))
def allV (p:Pg) (f:Pr):List Str:=p.globals++x7m f
structure ScopeOK (p:Pg) (f:Pr):Prop where
 nd:(allV p f).Nodup
 kn : ∀ t∈flL f.body,knownB p f (procsN p) t=true
theorem x0p {p:Pg} {f:Pr} (hg:XH p.globals=false):WI p f=none↔ScopeOK p f:=by
 unfold WI;have h1:(XH (x7m f)||(x7m f).any (fun n=>p.globals.any fun s=>n==s))=false↔(allV p f).Nodup:=by
  unfold allV;rw [Bool.or_eq_false_iff,ZI,nodup_append,List.any_eq_false];have hgn:=ZI.1 hg;constructor
  ·rintro ⟨a,b⟩;refine ⟨hgn,a,fun x hx y hy e=>b y hy ?_⟩;rw [List.any_eq_true];exact ⟨x,hx,by rw [e];exact beq_self_eq_true _⟩
  ·rintro ⟨_,a,b⟩;refine ⟨a,fun y hy hh => ?_⟩;obtain ⟨x,hx,he⟩:=List.any_eq_true.1 hh;exact b x hx y hy (eq_of_beq he).symm
 cases hc:(XH (x7m f)||(x7m f).any (fun n=>p.globals.any fun s=>n==s)) with
 | true =>
   rw [cond_true];refine ⟨fun h=>by (cases h),fun h => ?_⟩;have:=h1.2 h.nd;rw [hc] at this;cases this
 | false =>
   rw [cond_false,Option.map_eq_none_iff,List.find?_eq_none];constructor
   ·exact fun h=>⟨h1.1 hc,fun t ht=>by have:=h t ht;simpa using this⟩
   ·intro h t ht;rw [h.kn t ht];decide
theorem w2m {p:Pg} (hm:VB p=true):(QA p).1=0↔WQ p=false ∧ ∀ f∈p.procs,ScopeOK p f:=by
 unfold QA;rw [hm,cond_true];cases hb:WQ p with
 | true=>rw [cond_true];exact ⟨fun h=>by simp at h,fun h=>by cases h.1⟩
 | false =>
   have hg:XH p.globals=false:=by
    unfold WQ at hb;rw [Bool.or_eq_false_iff] at hb;exact hb.1
   rw [cond_false];cases hf:p.procs.findSome? (WI p) with
   | some a =>
     refine ⟨fun h=>by simp at h,fun h => ?_⟩;obtain ⟨f,hm2,hq⟩:=List.exists_of_findSome?_eq_some hf;rw [(x0p hg).2 (h.2 f hm2)] at hq;cases hq
   | none=>exact ⟨fun _=>⟨rfl,fun f hm2=>(x0p hg).1 (List.findSome?_eq_none_iff.1 hf f hm2)⟩,fun _=>rfl⟩
theorem x9u {p:Pg} (hs:(QA p).1=0):(VM p).1=0 ↔ ∀ t∈JC p,t.kind=4->YW p t=true:=by
 unfold VM;rw [if_neg (by omega)];cases hf:(JC p).find? fun t=>decide (t.kind=4) && !YW p t with
 | some t =>
   have h1:=List.mem_of_find?_eq_some hf;have h2:=List.find?_some hf;simp only [Bool.and_eq_true,decide_eq_true_eq,Bool.not_eq_true'] at h2;refine ⟨fun h=>by simp at h,fun h => ?_⟩;have:=h t h1 h2.1;rw [h2.2] at this;cases this
 | none =>
   refine ⟨fun _ t ht hk => ?_,fun _=>rfl⟩;have:=List.find?_eq_none.1 hf t ht;simp only [Bool.and_eq_true,decide_eq_true_eq,Bool.not_eq_true',not_and] at this;simpa using this hk
theorem w0x {p:Pg} (ha:(VM p).1=0):(HP p).1=0 ↔ ∀ t∈JC p,t.kind=4->XP t.name (UE p t.proc) t.args []=true:=by
 unfold HP;rw [if_neg (by omega)];cases hf:(JC p).find? fun t=>decide (t.kind=4) && !XP t.name (UE p t.proc) t.args [] with
 | some t =>
   have h1:=List.mem_of_find?_eq_some hf;have h2:=List.find?_some hf;simp only [Bool.and_eq_true,decide_eq_true_eq,Bool.not_eq_true'] at h2;refine ⟨fun h=>by simp at h,fun h => ?_⟩;have:=h t h1 h2.1;rw [h2.2] at this;cases this
 | none =>
   refine ⟨fun _ t ht hk => ?_,fun _=>rfl⟩;have:=List.find?_eq_none.1 hf t ht;simp only [Bool.and_eq_true,decide_eq_true_eq,Bool.not_eq_true',not_and] at this;simpa using this hk
theorem x5s {p:Pg}:XG p=true↔VB p=true∧(QA p).1=0∧(VM p).1=0∧(NI p).1=0∧(HP p).1=0:=by
 refine ⟨QF,fun ⟨h1,h2,h3,h4,h5⟩ => ?_⟩;unfold XG w3a;rw [decide_eq_true_eq,if_neg (by rw [h1];decide),if_neg (by omega),if_neg (by omega),if_neg (by omega)];exact h5
theorem x7u {p:Pg} (h:VB p=true):(allR p).map RI.s=JC p:=by
 rw [x5x h];exact w7a p.procs
theorem w9i {l:List Nat} {a:Nat} (h:a∈l):a<=z8z l:=by
 induction l with
 | nil=>cases h
 | cons b r ih =>
   rw [z8z];rcases List.mem_cons.1 h with rfl|h
   ·omega
   ·have:=ih h;omega
theorem x2u : ∀ (n:Nat) (x:X) (k:Nat),wX x<k->HO n x<=n->NB k x=true->VU n x=true
 | 0,x,k,_,h,_=>by rw [HO] at h;omega
 | n+1,x,0,hk,_,_=>by omega
 | n+1,x,k+1,hk,h,hf=>by
   rw [HO] at h;rw [NB,Bool.and_eq_true,List.all_eq_true] at hf;obtain ⟨ho,hkids⟩:=hf;have hxe:wX x=1+wXs x.kids:=by cases x;rw [wX];rfl
   have hk2 : ∀ y∈x.kids,VU n y=true:=fun y hy=>x2u n y k (by have:=z2o _ _ hy;omega) (by have:=w9i (List.mem_map.2 ⟨y,hy,rfl⟩:HO n y∈x.kids.map (HO n));omega) (hkids y hy);unfold HJ at ho;simp only [Bool.and_eq_true,Bool.or_eq_true,decide_eq_true_eq,beq_iff_eq] at ho;obtain ⟨⟨⟨⟨h1,h2⟩,h3⟩,h4⟩,h5⟩:=ho;rw [VU,Bool.and_eq_true,decide_eq_true_eq];refine ⟨h1.symm,?_⟩;split
   ·rename_i h6;rw [h6,decide_eq_false (by decide)] at h4;simp_all
   ·rename_i h6;split
    ·rename_i h7;rw [decide_eq_true h7] at h4;simp_all
    ·rename_i h7;rw [decide_eq_false h7] at h4;simp_all
theorem z1q (x:X):mayXR x=w3k x:=by
 rw [Bool.eq_iff_iff];refine ⟨fun h => ?_,w1b⟩;unfold mayXR at h;rw [Bool.and_eq_true,decide_eq_true_eq] at h;exact x2u 20 x _ (Nat.lt_succ_self _) h.1 h.2
theorem w8k (a:Arg):argR a=q2l a:=by
 unfold argR q2l YE DB;rw [z1q];cases a.ref<;>rfl
theorem w6s {s:S} (h:OneF s):oneOk s=true:=by
 obtain ⟨f1,f2,f3,f4,f5,f6,f7,f8,f9,f10,f11,f12,f13,f14⟩:=h;have h11:s.args.all q2l=true:=by
  rw [List.all_eq_true] at f11 ⊢;exact fun a ha=>by rw [<- w8k];exact f11 a ha
 rw [z1q] at f4;have hk:s.kind=1∨s.kind=2∨s.kind=3∨s.kind=4∨s.kind=5∨s.kind=6∨s.kind=7∨s.kind=8∨s.kind=9∨s.kind=10:=by omega
 have hz : ∀ {α:Type} (l:List α),l.length=0->decide (0<l.length)=false:=fun l h=>decide_eq_false (by omega);have hnm : ¬(s.kind=1∨s.kind=2∨s.kind=10)->s.kind≠4->(s.name==[])=true:=fun h1 h2=>by
  rcases f8 h1 with h|h
  ·exact h
  ·exact absurd h.1 h2
 have hhas:s.kind≠9->s.has=false:=fun h=>by
  cases hq:s.has with
  | false=>rfl
  | true=>exact absurd (f6 hq) h
 unfold oneOk;rw [Bool.and_eq_true];refine ⟨?_,f1⟩;have key : ∀ (f:Flds),q1f s.kind s.has (s.name==[])=some f->f.has=false->(f.thn=false->s.thn.length=0)->(f.els=false->s.els.length=0)->(s.kind≠4->s.args.length=0)->YE s.name f.name=true->YE s.proc f.proc=true->DB s.x f.x=true->WE s=true:=fun f hf a1 a2 a3 a4 a5 a6 a7=>by
  rw [x2w hf,a1,a5,a6,a7,h11];have e1:(!f.thn&&decide (0<s.thn.length))=false:=by
   cases ht:f.thn with
   | true=>rfl
   | false=>rw [hz _ (a2 ht)];rfl
  have e2:(!f.els&&decide (0<s.els.length))=false:=by
   cases ht:f.els with
   | true=>rfl
   | false=>rw [hz _ (a3 ht)];rfl
  have e3:(!decide (s.kind=4)&&decide (0<s.args.length))=false:=by
   by_cases h4:s.kind=4
   ·rw [decide_eq_true h4];rfl
   ·rw [hz _ (a4 h4)];exact Bool.and_false _
  rw [e1,e2,e3];rfl
 have noP:s.kind≠4->YE s.proc false=true:=fun h=>f10 h;rcases hk with hk|hk|hk|hk|hk|hk|hk|hk|hk|hk
 ·exact key ⟨true,false,true,s.has,false,false⟩ (by rw [hk];rfl) (hhas (by omega)) (fun _=>by omega) (fun _=>by omega) f12 (f7 (by omega)) (noP (by omega)) (f4 (by unfold hasXB;rw [hk];rfl))
 ·exact key ⟨true,false,false,s.has,false,false⟩ (by rw [hk];rfl) (hhas (by omega)) (fun _=>by omega) (fun _=>by omega) f12 (f7 (by omega)) (noP (by omega)) (f5 (by unfold hasXB;rw [hk];rfl))
 ·exact key ⟨false,false,true,s.has,false,false⟩ (by rw [hk];rfl) (hhas (by omega)) (fun _=>by omega) (fun _=>by omega) f12 (hnm (by omega) (by omega)) (noP (by omega)) (f4 (by unfold hasXB;rw [hk];rfl))
 ·refine key ⟨!(s.name==[]),true,false,s.has,false,false⟩ (by rw [hk];rfl) (hhas (by omega)) (fun _=>by omega) (fun _=>by omega) f12 ?_ (f9 hk) (f5 (by unfold hasXB;rw [hk];rfl));rcases f8 (by omega) with h|h
  ·rw [h];exact h
  ·rw [q3s h.2];exact h.2
 ·exact key ⟨false,false,true,s.has,true,true⟩ (by rw [hk];rfl) (hhas (by omega)) (fun h=>by cases h) (fun h=>by cases h) f12 (hnm (by omega) (by omega)) (noP (by omega)) (f4 (by unfold hasXB;rw [hk];rfl))
 ·exact key ⟨false,false,true,s.has,true,false⟩ (by rw [hk];rfl) (hhas (by omega)) (fun h=>by cases h) (fun _=>by omega) f12 (hnm (by omega) (by omega)) (noP (by omega)) (f4 (by unfold hasXB;rw [hk];rfl))
 ·exact key ⟨false,false,false,s.has,false,false⟩ (by rw [hk];rfl) (hhas (by omega)) (fun _=>by omega) (fun _=>by omega) f12 (hnm (by omega) (by omega)) (noP (by omega)) (f5 (by unfold hasXB;rw [hk];rfl))
 ·exact key ⟨false,false,false,s.has,false,false⟩ (by rw [hk];rfl) (hhas (by omega)) (fun _=>by omega) (fun _=>by omega) f12 (hnm (by omega) (by omega)) (noP (by omega)) (f5 (by unfold hasXB;rw [hk];rfl))
 ·refine key ⟨false,false,s.has,false,false,false⟩ (by rw [hk];rfl) rfl (fun _=>by omega) (fun _=>by omega) f12 (hnm (by omega) (by omega)) (noP (by omega)) ?_;cases hh:s.has with
  | true=>exact f4 (by unfold hasXB;rw [hk,hh];rfl)
  | false=>exact f5 (by unfold hasXB;rw [hk,hh];rfl)
 ·exact key ⟨true,false,false,s.has,false,false⟩ (by rw [hk];rfl) (hhas (by omega)) (fun _=>by omega) (fun _=>by omega) f12 (f7 (by omega)) (noP (by omega)) (f5 (by unfold hasXB;rw [hk];rfl))
theorem w4w : ∀ (k:Nat) (l:List S) (i:Int) (e:Bool) (out:List RI),(flF k i e l out).length<=200->(∀ x∈flF k i e l out,x.deep<=12)->flF k i e l out=out++fuL (13-(k:Int)) i e l:=by
 intro k;induction k with
 | zero =>
   intro l i e out h1 h2;cases l with
   | nil=>rw [fuL,append_nil];rfl
   | cons s r =>
     exfalso;have e0:flF 0 i e (s::r) out=flF 0 i e r (if out.length<=200 then out++[⟨s,13,i,e⟩] else out):=rfl;rw [e0] at h1 h2;have hl:=(PP 0 i e r (if out.length<=200 then out++[⟨s,13,i,e⟩] else out)).1;by_cases ho:out.length<=200
     ·rw [if_pos ho] at h1 h2 hl;have hpre : ∀ (r:List S) (o:List RI) (x:RI),x∈o->x∈flF 0 i e r o:=fun r=>by
       induction r with
       | nil=>exact fun o x hx=>hx
       | cons a r ih =>
         intro o x hx;show x∈flF 0 i e r (if o.length<=200 then o++[⟨a,13,i,e⟩] else o);refine ih _ _ ?_;split
         ·exact List.mem_append.2 (.inl hx)
         ·exact hx
      have:=h2 _ (hpre r _ ⟨s,13,i,e⟩ (List.mem_append.2 (.inr (List.mem_singleton.2 rfl))));simp at this
     ·rw [if_neg ho] at h1 hl;omega
 | succ k ih =>
   intro l;induction l with
   | nil=>intro i e out h1 h2;rw [fuL,append_nil];rfl
   | cons s r ihr =>
     intro i e out h1 h2;have e0:flF (k+1) i e (s::r) out=flF (k+1) i e r (if out.length<=200 then flF k s.id true s.els (flF k s.id false s.thn (out++[⟨s,13-((k+1:Nat):Int),i,e⟩])) else out):=rfl;rw [e0] at h1 h2 ⊢;have hl:=(PP (k+1) i e r (if out.length<=200 then flF k s.id true s.els (flF k s.id false s.thn (out++[⟨s,13-((k+1:Nat):Int),i,e⟩])) else out)).1;have ho:out.length<=200:=by
      refine Classical.byContradiction fun hq => ?_;rw [if_neg hq] at hl h1;omega
     rw [if_pos ho] at h1 h2 hl ⊢;have h3:=ihr i e _ h1 h2;rw [h3] at h2;have h2' : ∀ x∈flF k s.id true s.els (flF k s.id false s.thn (out++[⟨s,13-((k+1:Nat):Int),i,e⟩])),x.deep<=12:=fun x hx=>h2 x (List.mem_append.2 (.inl hx));have h4:=ih s.els s.id true _ (by omega) h2';rw [h4] at h2';have h2'' : ∀ x∈flF k s.id false s.thn (out++[⟨s,13-((k+1:Nat):Int),i,e⟩]),x.deep<=12:=fun x hx=>h2' x (List.mem_append.2 (.inl hx));have hl2:=(PP k s.id true s.els (flF k s.id false s.thn (out++[⟨s,13-((k+1:Nat):Int),i,e⟩]))).1;have h5:=ih s.thn s.id false _ (by omega) h2'';have ed:(13:Int)-((k+1:Nat):Int)+1=13-(k:Int):=by omega
     rw [h3,h4,h5,fuL,x2f,ed];simp
mutual
theorem v0l (d i:Int) (e:Bool) (seen:Nat) : ∀ (t:S),(fuS d i e t).map (fun x=>x.s.id)=YR seen (ZV t)->(∀ x∈fuS d i e t,x.deep<=12∧oneOk x.s=true)->seen+ZV t<=200->q7x d seen t=some ((seen+ZV t:Nat):Int)
 | .mk id kind labels name proc x has args thn els,h1,h2,h3=>by
   have hc:ZV (.mk id kind labels name proc x has args thn els)=1+QV thn+QV els:=WB _;rw [fuS] at h1 h2;rw [hc] at h1 h3 ⊢;have hsp:YR seen (1+QV thn+QV els)=((seen:Int)+1)::(YR (seen+1) (QV thn)++YR (seen+1+QV thn) (QV els)):=by
    rw [<- FJ];unfold YR;rw [show 1+QV thn+QV els=(QV thn+QV els)+1 by omega,List.range'_succ,map_cons];congr 1
   rw [hsp,map_cons,List.map_append] at h1;have hid:id=(seen:Int)+1:=(List.cons.inj h1).1;have h1':=(List.cons.inj h1).2;have hlen:((fuL (d+1) id false thn).map fun x=>x.s.id).length=(YR (seen+1) (QV thn)).length:=by
    rw [length_map,ZR];unfold YR;simp
   obtain ⟨ha,hb⟩:=List.append_inj h1' hlen;have hok:=h2 _ mem_cons_self;have r1:=x6h (d+1) id false (seen+1) thn ha (fun x hx=>h2 x (mem_cons_of_mem _ (List.mem_append.2 (.inl hx)))) (by omega);have r2:=x6h (d+1) id true (seen+1+QV thn) els hb (fun x hx=>h2 x (mem_cons_of_mem _ (List.mem_append.2 (.inr hx)))) (by omega);have hoo:=hok.2;unfold oneOk at hoo;rw [Bool.and_eq_true] at hoo;rw [q7x,if_neg (by omega),if_neg (by omega),show namesB labels=true from hoo.2,cond_true,show WE (.mk id kind labels name proc x has args thn els)=true from hoo.1,cond_true];have e1:(seen:Int)+1=((seen+1:Nat):Int):=by omega
   rw [e1,r1];simp only;rw [r2];congr 1;omega
theorem x6h (d i:Int) (e:Bool) (seen:Nat) : ∀ (l:List S),(fuL d i e l).map (fun x=>x.s.id)=YR seen (QV l)->(∀ x∈fuL d i e l,x.deep<=12∧oneOk x.s=true)->seen+QV l<=200->ZB d seen l=some ((seen+QV l:Nat):Int)
 | [],_,_,_=>by rw [ZB,QV];rfl
 | t::r,h1,h2,h3=>by
   rw [fuL] at h1 h2;have hc:QV (t::r)=ZV t+QV r:=by rw [QV]
   rw [hc] at h1 h3 ⊢;rw [FJ,List.map_append] at h1;have hlen:((fuS d i e t).map fun x=>x.s.id).length=(YR seen (ZV t)).length:=by
    have:=ZR d i e [t];rw [fuL,fuL,append_nil,QV,QV] at this;rw [length_map,this];unfold YR;simp
   obtain ⟨ha,hb⟩:=List.append_inj h1 hlen;have hd:d<=12:=by
    have:(⟨t,d,i,e⟩:RI)∈fuS d i e t++fuL d i e r:=List.mem_append.2 (.inl (by rw [x2f];exact mem_cons_self));exact (h2 _ this).1
   have r1:=v0l d i e seen t ha (fun x hx=>h2 x (List.mem_append.2 (.inl hx))) (by omega);have r2:=x6h d i e (seen+ZV t) r hb (fun x hx=>h2 x (List.mem_append.2 (.inr hx))) (by omega);rw [ZB,if_neg (by omega),r1];simp only;rw [r2];congr 1;omega
end
theorem x7t : ∀ (l:List Pr) (seen:Nat),(∀ f∈l,GW f=true)->((l.flatMap flatU).map fun x=>x.s.id)=YR seen (cntP l)->(∀ x∈l.flatMap flatU,x.deep<=12∧oneOk x.s=true)->seen+cntP l<=200->(XE seen l).isSome=true
 | [],_,_,_,_,_=>rfl
 | f::r,seen,h1,h2,h3,h4=>by
   rw [flatMap_cons] at h2 h3;have hc:cntP (f::r)=QV f.body+cntP r:=by rw [cntP]
   rw [hc] at h2 h4;rw [FJ,List.map_append] at h2;have hlen:((flatU f).map fun x=>x.s.id).length=(YR seen (QV f.body)).length:=by
    unfold flatU;rw [length_map,ZR];unfold YR;simp
   obtain ⟨ha,hb⟩:=List.append_inj h2 hlen;have r1:=x6h 1 0 false seen f.body ha (fun x hx=>h3 x (List.mem_append.2 (.inl hx))) (by omega);have r2:=x7t r (seen+QV f.body) (fun g hg=>h1 g (mem_cons_of_mem _ hg)) hb (fun x hx=>h3 x (List.mem_append.2 (.inr hx))) (by omega);rw [XE,h1 f mem_cons_self,cond_true,r1];exact r2
theorem z8u : ∀ (l:List Pr) (out:List RI),(BD l out).length<=200->(∀ x∈BD l out,x.deep<=12)->BD l out=out++l.flatMap flatU:=by
 intro l;induction l with
 | nil=>intro out _ _;show out=_;simp
 | cons f r ih =>
   intro out h1 h2;have mono : ∀ (r:List Pr) (o:List RI),o.length<=(BD r o).length:=fun r=>by
    induction r with
    | nil=>exact fun o=>Nat.le_refl _
    | cons g r ih =>
      intro o;show _<=(BD r (if o.length<=200 then o++VN g else o)).length;have:=ih (if o.length<=200 then o++VN g else o);split at this
      ·rw [if_pos (by assumption)];simp only [length_append] at this;omega
      ·rw [if_neg (by assumption)];exact this
   have e0:BD (f::r) out=BD r (if out.length<=200 then out++VN f else out):=rfl;rw [e0] at h1 h2 ⊢;have hm:=mono r (if out.length<=200 then out++VN f else out);have ho:out.length<=200:=by
    refine Classical.byContradiction fun hq => ?_;rw [if_neg hq] at hm h1;omega
   rw [if_pos ho] at h1 h2 hm ⊢;have h3:=ih _ h1 h2;rw [h3] at h2 h1 ⊢;simp only [length_append] at h1;have h4:=w4w 12 f.body 0 false [] (by show (VN f).length<=200;omega) (fun x hx=>h2 x (List.mem_append.2 (.inl (List.mem_append.2 (.inr hx)))));have h5:VN f=flatU f:=by simpa [VN,flatU] using h4
   rw [h5];simp
theorem v1b {p:Pg} (h1:p.globals.length<=16) (h2:p.procs.length<=16) (h3:namesB p.globals=true) (h4 : ∀ f∈p.procs,GW f=true) (h5:(allR p).length<=200) (h6 : ∀ (k:Nat) (x:RI),(allR p)[k]? = some x->x.s.id=(k:Int)+1∧x.deep<=12∧oneOk x.s=true):VB p=true:=by
 have hmem : ∀ x∈allR p,x.deep<=12∧oneOk x.s=true:=fun x hx=>by
  obtain ⟨k,hk,rfl⟩:=List.mem_iff_getElem.1 hx;exact (h6 k _ (List.getElem?_eq_getElem hk)).2
 have he:allR p=p.procs.flatMap flatU:=by
  have:=z8u p.procs [] h5 (fun x hx=>(hmem x hx).1);simpa [allR] using this
 have hids:(p.procs.flatMap flatU).map (fun x=>x.s.id)=YR 0 (cntP p.procs):=by
  refine List.ext_getElem? fun k => ?_;rw [List.getElem?_map,<- he];rcases Nat.lt_or_ge k (allR p).length with hk|hk
  ·have hk2:k<cntP p.procs:=by rw [<- q2g,<- he];exact hk
   rw [List.getElem?_eq_getElem hk];have:=(h6 k _ (List.getElem?_eq_getElem hk)).1;unfold YR;rw [List.getElem?_map,List.getElem?_range' hk2];simp only [Option.map_some,this];congr 1;omega
  ·have hk2:cntP p.procs<=k:=by rw [<- q2g,<- he];exact hk
   rw [List.getElem?_eq_none hk,List.getElem?_eq_none (by unfold YR;simpa using hk2)];rfl
 have hlen:0+cntP p.procs<=200:=by rw [<- q2g,<- he];omega
 have:=x7t p.procs 0 h4 hids (fun x hx=>hmem x (by rw [he];exact hx)) hlen;unfold VB;rw [decide_eq_true h1,decide_eq_true h2,h3];exact this
def spo (out:List Str) (s:Str):List Str:=if (out.any fun y=>s==y)=false then out++[s] else out
theorem w7z (x:X) (out:List Str):x3v x out=HK x.kids (if x.op=2 then spo out x.name else out):=by
 rw [x4j];unfold spo;by_cases h:x.op=2
 ·rw [if_pos h];by_cases h2:(out.any fun y=>x.name==y)=false
  ·rw [if_pos ⟨h,h2⟩,if_pos h2]
  ·rw [if_neg (fun hh=>h2 hh.2),if_neg h2]
 ·rw [if_neg h,if_neg (fun hh=>h hh.1)]
theorem q0p (out:List Str) (s:Str) (ho:out.length<=1073741824):SpecH Tryz.prog 254 [.hd 2000 0 out.length,.p (.str s)] (x4u 9 out) (fun r H=>r = .hd 2000 0 (spo out s).length∧H=x4u 9 (spo out s)):=by
 refine sH PS Tryz.func254 rfl Tryz.call254 ?_;conv=>whnf
 repeat' (refine iM fun _=>?_;conv=>whnf)
 have hl:(out.map AV.str).length=out.length:=length_map _;refine LoopK.inv QX (fun j:Nat=>⟨[(0,.hd 2000 0 out.length),(1,.p (.str s)),(7,.hd 2000 0 out.length),(8,.p (.int .i64 out.length)),(9,.p (.int .i64 j))],x4u 9 out⟩) (fun j=>j<=out.length∧(out.drop j).any (fun y=>s==y)=out.any fun y=>s==y) (fun j=>out.length-j) 0 (Le.of_eq rfl) ⟨zero_le _,rfl⟩ ?_;rintro j ⟨h2,h3⟩;rcases Nat.lt_or_ge j out.length with hj|hj
 ·have g:(out.map AV.str)[j]? = some (.str out[j]):=by simp [hj]
  conv=>whnf
  repeat' (first|((first|refine And.intro rfl ?_|refine wI ?_|refine IdxL.mk j rfl (by omega) ?_|refine LdOwn.mk j 0 _ (by omega) g ?_);conv=>whnf)|(apply bD<;>intro _<;>first|omega|conv=>whnf)|(apply bB<;>intro _<;>conv=>whnf))
  ·have he:(s==out[j])=true:=by rw [Bool.beq_comm];assumption
   have e:=q4w (p:=fun y=>s==y) hj he;rw [h3] at e;have hs:spo out s=out:=by unfold spo;rw [if_neg (by rw [e];decide)]
   exact ⟨_,.refl _,by rw [hs];exact ⟨rfl,rfl⟩⟩
  ·have he:(s==out[j])=false:=by rw [Bool.beq_comm];assumption
   exact ⟨j+1,⟨by omega,by rw [<- h3,q5s (p:=fun y=>s==y) hj he]⟩,by omega,Le.of_eq rfl⟩
 ·have e:=PW (p:=fun y=>s==y) (l:=out) hj;rw [h3] at e;have hs:spo out s=out++[s]:=by unfold spo;rw [if_pos e]
  rw [hs];conv=>whnf
  repeat' (first|((first|refine And.intro rfl ?_|refine aD ?_|refine bP ?_|refine XW (by simp) (by simp;omega) ?_);conv=>whnf)|(apply bD<;>intro _<;>first|omega|conv=>whnf))
  exact ⟨_,.refl _,by simp only [x4u,length_append,List.map_append];exact ⟨rfl,rfl⟩⟩
theorem q3d : ∀ (n:Nat) (_:n<=20) (x:X) (_:VU n x=true) (out:List Str) (_:out.length+2 ^ n<=1073741824),
  SpecH Tryz.prog 167 [.p (.agg x.cells),.hd 2000 0 out.length] (x4u 9 out) (fun r H=>r = .hd 2000 0 (x3v x out).length∧H=x4u 9 (x3v x out)):=by
 intro n;induction n with
 | zero=>intro _ x h;rw [VU] at h;cases h
 | succ n ih =>
   intro hn x hx out ho;have hp:2 ^ (n+1)=2*2 ^ n:=by rw [Nat.pow_succ];omega
   have hpos:0<2 ^ n:=Nat.pow_pos (by decide);obtain ⟨hk1,hk2,hk3⟩:=q4d hx;have hxl:=X.avs_len x.kids;have hmul : ∀ j,j<x.kids.length->(x.kids.length-j)*2 ^ n=(x.kids.length-(j+1))*2 ^ n+2 ^ n:=fun j hj=>by
    rw [show x.kids.length-j=(x.kids.length-(j+1))+1 by omega,Nat.add_mul,Nat.one_mul]
   have hmul0:x.kids.length*2 ^ n<=2*2 ^ n:=Nat.mul_le_mul_right _ hk1;have hspl:(spo out x.name).length<=out.length+1:=by unfold spo;split<;>simp
   have hg:=w7z x out;have hz:x.op=2->x.kids.length*2 ^ n=0:=fun h=>by rw [hk2 h,Nat.zero_mul]
   rw [hg];have hS:=q0p out x.name (by omega);have hlen:(if x.op=2 then spo out x.name else out).length+x.kids.length*2 ^ n<=1073741824:=by
    split
    ·rename_i h;have:=hz h;omega
    ·omega
   clear hg;refine sH q0l Tryz.func167 rfl Tryz.call167 ?_;conv=>whnf
   generalize spo out x.name=o2 at *
   repeat' (first|(refine iM fun _=>?_;conv=>whnf)|(apply bD<;>intro _<;>first|omega|conv=>whnf)|(refine CallK.heap [(2000,2000)] 0 (by repeat' (first|exact ArgsH.nil|refine ArgsH.cons ?_ ?_|exact LSub.refl _|exact LSub.p Sub.nils|exact LSub.p (Sub.tt rfl)|exact LSub.p (Sub.ff rfl)|exact LSub.p (Sub.int (by omega)))) (by refine BlksH.cons (j:=2000) rfl rfl ?_ ?_;exact CSub.refl _;exact BlksH.nil) hS rfl rfl ?_;rintro l' H' ⟨rfl,rfl⟩;conv=>whnf))
   all_goals
    first
    | rw [if_pos (by assumption)] at hlen ⊢
    | rw [if_neg (by assumption)] at hlen ⊢
   rotate_left 1;generalize out=o2 at *
   all_goals
    refine LoopK.inv QX (fun i:Nat×List Str=>⟨[(1,.hd 2000 0 i.2.length),(2,.p (.ip x.cells)),(15,.p (.int .i64 (X.avs x.kids).length)),(16,.p (.int .i64 i.1))],x4u 9 i.2⟩) (fun i=>i.1<=x.kids.length∧HK (x.kids.drop i.1) i.2=HK x.kids o2∧i.2.length+(x.kids.length-i.1)*2 ^ n<=1073741824) (fun i=>x.kids.length-i.1) (0,o2) (Le.of_eq rfl) ⟨zero_le _,rfl,by simpa using hlen⟩ ?_;rintro ⟨j,acc⟩ ⟨h2,h3,h4⟩;simp only at h2 h3 h4 ⊢;rcases Nat.lt_or_ge j x.kids.length with hj|hj
    ·have hm:=hmul j hj;have hg:=z3x n x.kids[j] acc (hk3 _ (List.getElem_mem hj));have hI:=ih (by omega) x.kids[j] (hk3 _ (List.getElem_mem hj)) acc (by omega);conv=>whnf
     repeat' (first|((first|refine IdxK.xs (by omega) ?_|refine wI ?_);conv=>whnf)|(apply bD<;>intro _<;>first|omega|conv=>whnf)|(refine CallK.heap [(2000,2000)] 0 (by repeat' (first|exact ArgsH.nil|refine ArgsH.cons ?_ ?_|exact LSub.refl _|exact LSub.p Sub.nils|exact LSub.p (Sub.tt rfl)|exact LSub.p (Sub.ff rfl)|exact LSub.p (Sub.int (by omega)))) (by refine BlksH.cons (j:=2000) rfl rfl ?_ ?_;exact CSub.refl _;exact BlksH.nil) hI rfl rfl ?_;rintro l' H' ⟨rfl,rfl⟩;conv=>whnf))
     all_goals exact ⟨(j+1,x3v x.kids[j] acc),⟨by simp only;omega,by simp only;rw [<- h3,x2m hj],by simp only;omega⟩,by simp only;omega,Le.of_eq rfl⟩
    ·rw [x8o (by omega)] at h3;conv=>whnf
     repeat' (apply bD<;>intro _<;>first|omega|conv=>whnf)
     exact ⟨_,.refl _,by rw [h3];exact ⟨rfl,rfl⟩⟩
theorem FN (x:X):SpecP Tryz.prog 166 [.agg x.cells] (fun r=>r = .bool (w3k x)):=by
 refine sB UL Tryz.func166 rfl Tryz.call166 ?_;conv=>whnf
 repeat' (first|((first|(refine CallK.pure (HN 20 (by omega) x) (.cons (Sub.refl _) (.cons (Sub.refl _) .nil)) ?_;rintro _ rfl)|(refine CallK.pure (HV (wX x+1) x (by omega)) (.cons (Sub.refl _) .nil) ?_;rintro _ rfl));conv=>whnf)|(apply bD<;>intro _<;>first|omega|conv=>whnf))
 all_goals rw [<- z1q]
 all_goals first
  | exact RetK.bool (by unfold mayXR;rw [decide_eq_true (by omega)];rfl)
  | exact RetK.ff (by unfold mayXR;rw [decide_eq_false (by omega)];rfl)
theorem KS (x:X):SpecP Tryz.prog 96 [.agg x.cells] (fun r=>r=QM (WD x)):=by
 refine sB MD Tryz.func96 rfl Tryz.call96 ?_;conv=>whnf
 have hM:=FN x;unfold WD;cases hm:w3k x with
 | false =>
   rw [hm] at hM;repeat' (first|(refine cP hM ?_;conv=>whnf)|(apply bN<;>intro _<;>conv=>whnf))
   all_goals first
    | exact ⟨_,.p Sub.nils,rfl⟩
    | (exfalso;simp_all;done)
 | true =>
   rw [hm] at hM;repeat' (first|(refine cP hM ?_;conv=>whnf)|(apply bN<;>intro _<;>conv=>whnf))
   all_goals first
    | (exfalso;simp_all;done)
    | (refine CallK.nil 5 9 1 rfl (.cons rfl (.row .nil)) ?_
       refine CallK.heap [(2000,5)] 0 (by repeat' (first|exact ArgsH.nil|refine ArgsH.cons ?_ ?_|exact LSub.refl _|exact LSub.p Sub.nils|exact LSub.p (Sub.tt rfl)|exact LSub.p (Sub.ff rfl)|exact LSub.p (Sub.int (by omega)))) (by refine BlksH.cons (j:=5) rfl rfl ?_ ?_;exact CSub.refl _;exact BlksH.nil) (q3d 20 (by omega) x (by assumption) [] (by simp)) rfl rfl ?_;rintro l' H' ⟨rfl,rfl⟩;conv=>whnf
       exact ⟨_,.hd rfl (by simp),rfl⟩)
theorem q9r {s:S} (h:oneOk s=true->False):oneOk s=false:=by
 cases hq:oneOk s with
 | false=>rfl
 | true=>exact (h hq).elim
theorem LQ (s:S):SpecP Tryz.prog 173 [.agg s.cells] (fun r=>r = .bool (oneOk s)):=by
 refine sB q1v Tryz.func173 rfl Tryz.call173 ?_;conv=>whnf
 have hal:(s.args.map fun a=>AV.agg a.cells).length=s.args.length:=length_map _;have htl:((S.avs s.thn).length:Int)=s.thn.length:=by rw [S.avs_len]
 have hel:((S.avs s.els).length:Int)=s.els.length:=by rw [S.avs_len]
 repeat' (first|((first|(refine iM fun _=>?_)|refine cP (XA _) ?_|refine cP (UG _) ?_|refine cP (HY _) ?_|refine cP (YI _) ?_|refine WN QX rfl rfl rfl rfl rfl ?_);conv=>whnf)|(apply bD<;>intro _<;>first|omega|conv=>whnf)|(apply bE<;>intro _<;>first|omega|conv=>whnf)|(apply bN<;>intro _<;>conv=>whnf)|(apply bB<;>intro _<;>conv=>whnf))
 all_goals simp only [show (ByteArray.mk #[]).data.toList=[] from rfl] at *
 all_goals first
  | (refine RetK.ff (q9r fun h => ?_)
     obtain ⟨f1,f2,f3,f4,f5,f6,f7,f8,f9,f10,f11,f12,f13,f14⟩:=YU h;first
      | omega
      | (exfalso;simp_all [hasXB];done)
      | (exfalso;simp_all [hasXB];omega)
      | (rename_i hq
         by_cases hk:s.kind=4
         ·have h15:=q3s (f9 hk);simp_all
          done
         ·have h15:=f10 hk;simp_all
          done))
  | skip
 all_goals
  have G:s.args.all argR=true->(s.thn.length=0∨s.kind=5∨s.kind=6)->(s.els.length=0∨s.kind=5)->oneOk s=true:=fun g1 g2 g3=>by
   refine w6s ⟨by assumption,by omega,by omega,fun q => ?_,fun q => ?_,fun q => ?_,fun q => ?_,fun q => ?_,fun q => ?_,fun q => ?_,g1,fun q => ?_,g2,g3⟩;all_goals clear hal htl hel g1 g2 g3
   all_goals first
    | omega
    | assumption
    | (simp_all [hasXB];done)
    | (simp_all [hasXB];omega)
    | (have h4:(s.kind==4) = !(s.proc==[]):=by assumption
       have h5:(s.kind==4)=false:=beq_eq_false_iff_ne.2 (by assumption);rw [h5] at h4
       revert h4
       cases (s.proc==[])<;>simp
       done)
    | trace_state
  refine LoopK.inv QX (fun j:Nat=>⟨[(1,.p (.ip s.cells)),(143,.p (.sl (s.args.map fun a => .agg a.cells))),(144,.p (.int .i64 (s.args.map fun a=>AV.agg a.cells).length)),(145,.p (.int .i64 j))],[]⟩) (fun j=>j<=s.args.length∧(s.args.drop j).all argR=s.args.all argR) (fun j=>s.args.length-j) 0 (Le.of_eq rfl) ⟨zero_le _,rfl⟩ ?_;rintro j ⟨h2,h3⟩;rcases Nat.lt_or_ge j s.args.length with hj|hj
  ·conv=>whnf
   repeat' (first|((first|refine cP (q6x _) ?_|refine And.intro rfl ?_|(refine iA fun _=>?_)|refine wI ?_);conv=>whnf)|(apply bD<;>intro _<;>first|omega|conv=>whnf)|(apply bN<;>intro _<;>conv=>whnf))
   all_goals first
    | exact ⟨j+1,⟨hj,by rw [GY hj (by assumption)];exact h3⟩,by omega,Le.of_eq rfl⟩
    | (refine RetK.ff (q9r fun h => ?_)
       have h4:=List.all_eq_true.1 (YU h).args _ (List.getElem_mem hj);simp_all)
  ·rw [GM hj] at h3;have G:=G h3.symm;conv=>whnf
   repeat' (first|(refine iM fun _=>?_;conv=>whnf)|(apply bD<;>intro _<;>first|omega|conv=>whnf))
   all_goals first
    | exact RetK.tt (G (by omega) (by omega))
    | (refine RetK.ff (q9r fun h => ?_)
       have F1:=(YU h).thn;have F2:=(YU h).els;omega)
    | (refine RetK.bool ?_
       first
        | rw [Bool.eq_iff_iff,beq_iff_eq]
        | rw [Bool.eq_iff_iff,decide_eq_true_eq]
       exact ⟨fun q=>G (by omega) (by omega),fun h=>by have F1:=(YU h).thn;have F2:=(YU h).els;omega⟩)
    | trace_state
theorem PN {p:Pg} (h:VB p=true->False):VB p=false:=by
 cases hq:VB p with
 | false=>rfl
 | true=>exact (h hq).elim
theorem KF (p:Pg):SpecP Tryz.prog 104 [.agg p.cells] (fun r=>r = .bool (VB p)):=by
 refine sB q1m Tryz.func104 rfl Tryz.call104 ?_;conv=>whnf
 have hgl:(p.globals.map AV.str).length=p.globals.length:=length_map _;have hpl:(p.procs.map fun f=>AV.agg f.cells).length=p.procs.length:=length_map _;repeat' (first|((first|(refine iM fun _=>?_)|refine cP (UG _) ?_);conv=>whnf)|(apply bD<;>intro _<;>first|omega|conv=>whnf)|(apply bN<;>intro _<;>conv=>whnf))
 all_goals first
  | (refine RetK.ff (PN fun h => ?_)
     have F:=BB h;have F1:=F.gl;have F2:=F.pl;have F3:=F.gn;first
      | omega
      | (simp_all;done))
  | skip
 have G1:p.globals.length<=16:=by omega
 have G2:p.procs.length<=16:=by omega
 have G3:namesB p.globals=true:=by assumption
 refine LoopK.inv QX (fun j:Nat=>⟨[(1,.p (.ip p.cells)),(26,.p (.sl (p.procs.map fun f => .agg f.cells))),(27,.p (.int .i64 (p.procs.map fun f=>AV.agg f.cells).length)),(28,.p (.int .i64 j))],[]⟩) (fun j=>j<=p.procs.length ∧ ∀ m (hm:m<p.procs.length),m<j->GW p.procs[m]=true) (fun j=>p.procs.length-j) 0 (Le.of_eq rfl) ⟨zero_le _,fun m hm h=>absurd h (Nat.not_lt_zero _)⟩ ?_;rintro j ⟨h2,G4⟩;rcases Nat.lt_or_ge j p.procs.length with hj|hj
 ·have hpm:(p.procs[j].params.map fun a=>AV.agg a.cells).length=p.procs[j].params.length:=length_map _;have hvs:(p.procs[j].vars.map AV.str).length=p.procs[j].vars.length:=length_map _;conv=>whnf
  repeat' (first|((first|(refine iM fun _=>?_)|refine cP (UG _) ?_|refine cP (XA _) ?_|refine And.intro rfl ?_|(refine iA fun _=>?_));conv=>whnf)|(apply bD<;>intro _<;>first|omega|conv=>whnf)|(apply bN<;>intro _<;>conv=>whnf))
  all_goals first
   | (refine RetK.ff (PN fun h => ?_)
      obtain ⟨F1,F2,F3,F4,F5,F6⟩:=(BB h).pr _ (List.getElem_mem hj);first
       | omega
       | (simp_all;done))
   | skip
  have G5:(p.procs[j].params.all fun a=>isName a.name)=true->GW p.procs[j]=true:=fun g=>PR.2 ⟨by omega,by omega,by assumption,by assumption,by assumption,g⟩;refine LoopK.inv QX (fun k:Nat=>⟨[(1,.p (.ip p.cells)),(26,.p (.sl (p.procs.map fun f => .agg f.cells))),(27,.p (.int .i64 (p.procs.map fun f=>AV.agg f.cells).length)),(28,.p (.int .i64 j)),(61,.p (.sl (p.procs[j].params.map fun a => .agg a.cells))),(62,.p (.int .i64 (p.procs[j].params.map fun a=>AV.agg a.cells).length)),(63,.p (.int .i64 k))],[]⟩) (fun k=>k<=p.procs[j].params.length∧(p.procs[j].params.drop k).all (fun a=>isName a.name)=p.procs[j].params.all fun a=>isName a.name) (fun k=>p.procs[j].params.length-k) 0 (Le.of_eq rfl) ⟨zero_le _,rfl⟩ ?_;rintro k ⟨h3,h4⟩;rcases Nat.lt_or_ge k p.procs[j].params.length with hk|hk
  ·conv=>whnf
   repeat' (first|((first|refine cP (XA _) ?_|refine And.intro rfl ?_|(refine iA fun _=>?_)|refine wI ?_);conv=>whnf)|(apply bD<;>intro _<;>first|omega|conv=>whnf)|(apply bN<;>intro _<;>conv=>whnf))
   ·exact ⟨k+1,⟨hk,by rw [<- h4,GY (p:=fun a:Param=>isName a.name) hk (by assumption)]⟩,by omega,Le.of_eq rfl⟩
   ·refine RetK.ff (PN fun h => ?_);have h5:=List.all_eq_true.1 ((BB h).pr _ (List.getElem_mem hj)).2.2.2.2.2 _ (List.getElem_mem hk);simp_all
  ·rw [GM hk] at h4;have G6:=G5 h4.symm;conv=>whnf
   repeat' (first|(refine wI ?_;conv=>whnf)|(apply bD<;>intro _<;>first|omega|conv=>whnf))
   refine ⟨j+1,⟨hj,fun m hm hmj => ?_⟩,by omega,Le.of_eq rfl⟩;rcases Nat.lt_or_ge m j with h5|h5
   ·exact G4 m hm h5
   ·obtain rfl:m=j:=by omega
    exact G6
 ·have G5 : ∀ f∈p.procs,GW f=true:=fun f hf=>by
   obtain ⟨m,hm,rfl⟩:=List.mem_iff_getElem.1 hf;exact G4 m hm (by omega)
  conv=>whnf
  have hrl:=WK (allR p);repeat' (first|((first|(refine iM fun _=>?_)|refine cP (YB _) ?_);conv=>whnf)|(apply bD<;>intro _<;>first|omega|conv=>whnf))
  ·refine RetK.ff (PN fun h => ?_);have:=(BB h).len;omega
  have G6:(allR p).length<=200:=by omega
  refine LoopK.inv QX (fun k:Nat=>⟨[(7,.p (KW (allR p))),(79,.p (.int .i64 ((allR p).map fun i=>AV.agg i.cells).length)),(80,.p (.int .i64 k))],[]⟩) (fun k=>k<=(allR p).length ∧ ∀ (m:Nat) (x:RI),m<k->(allR p)[m]? = some x->x.s.id=(m:Int)+1∧x.deep<=12∧oneOk x.s=true) (fun k=>(allR p).length-k) 0 (Le.of_eq rfl) ⟨zero_le _,fun m x h=>absurd h (Nat.not_lt_zero _)⟩ ?_;rintro k ⟨h3,G7⟩;rcases Nat.lt_or_ge k (allR p).length with hk|hk
  ·conv=>whnf
   have F:=fun h:VB p=true=>(BB h).its k _ (List.getElem?_eq_getElem hk);repeat' (first|((first|(refine iA fun _=>?_)|refine wI ?_|refine cP (LQ (allR p)[k].s) ?_);conv=>whnf)|(apply bD<;>intro _<;>first|omega|conv=>whnf)|(apply bE<;>intro _<;>first|omega|conv=>whnf)|(apply bN<;>intro _<;>conv=>whnf))
   all_goals first
    | (refine ⟨k+1,⟨hk,fun m x hm hx => ?_⟩,by omega,Le.of_eq rfl⟩
       rcases Nat.lt_or_ge m k with h5|h5
       ·exact G7 m x h5 hx
       ·obtain rfl:m=k:=by omega
        rw [List.getElem?_eq_getElem hk] at hx;obtain rfl:=Option.some.inj hx;exact ⟨by omega,by omega,by assumption⟩)
    | (refine RetK.ff (PN fun h => ?_)
       obtain ⟨F1,F2,F3⟩:=F h;first
        | omega
        | (simp_all
           done))
  ·conv=>whnf
   repeat' (apply bD<;>intro _<;>first|omega|conv=>whnf)
   exact RetK.tt (v1b G1 G2 G3 G5 G6 fun m x hx=>G7 m x (by have:=(List.getElem?_eq_some_iff.1 hx).1;omega) hx)
def NE (p:Pg) (n:Str):Pr×Bool:=bif VB p then UB p n else (Pr0,false)
theorem ZD (p:Pg) (n:Str):SpecP Tryz.prog 42 [.agg p.cells,.str n] (fun r=>r = .tup [.agg (NE p n).1.cells,.bool (NE p n).2]):=by
 refine sB LZ Tryz.func42 rfl Tryz.call42 ?_;conv=>whnf
 have hpl:(p.procs.map fun f=>AV.agg f.cells).length=p.procs.length:=length_map _;repeat' (first|((first|(refine iM fun _=>?_)|refine cP (KF _) ?_|refine And.intro rfl ?_);conv=>whnf)|(apply bB<;>intro _<;>conv=>whnf))
 ·have hM:NE p n=UB p n:=by unfold NE;rw [show VB p=true by assumption];rfl
  rw [hM];refine LoopK.inv QX (fun j:Nat=>⟨[(1,.p (.str n)),(4,.ptr 1 0),(11,.p (.sl (p.procs.map fun f => .agg f.cells))),(12,.p (.int .i64 (p.procs.map fun f=>AV.agg f.cells).length)),(13,.p (.int .i64 j))],[(1,.obj 68 [.p (.str []),.p .nils,.p .nils,.p .nils,.p .nils])]⟩) (fun j=>j<=p.procs.length∧(p.procs.drop j).find? (fun f=>f.name==n)=p.procs.find? fun f=>f.name==n) (fun j=>p.procs.length-j) 0 (Le.of_eq rfl) ⟨zero_le _,rfl⟩ ?_;rintro j ⟨h2,h3⟩;rcases Nat.lt_or_ge j p.procs.length with hj|hj
  ·rw [QH hj,List.find?_cons] at h3;conv=>whnf
   repeat' (first|((first|refine And.intro rfl ?_|(refine iA fun _=>?_)|refine wI ?_);conv=>whnf)|(apply bD<;>intro _<;>first|omega|conv=>whnf)|(apply bB<;>intro _<;>conv=>whnf))
   ·have hn:(p.procs[j].name==n)=true:=by assumption
    rw [hn] at h3;exact ⟨_,.p (Sub.tup (SubL.cons (Sub.refl _) (SubL.cons (Sub.tt rfl) SubL.nil))),by unfold UB;rw [<- h3];first|done|rfl⟩
   ·have hn:(p.procs[j].name==n)=false:=by assumption
    rw [hn] at h3;exact ⟨j+1,⟨hj,h3⟩,by omega,Le.of_eq rfl⟩
  ·rw [List.drop_eq_nil_of_le hj,List.find?_nil] at h3;conv=>whnf
   repeat' (first|(refine And.intro rfl ?_;conv=>whnf)|(apply bD<;>intro _<;>first|omega|conv=>whnf))
   exact ⟨_,.p (Sub.tup (SubL.cons z2a (SubL.cons (Sub.ff rfl) SubL.nil))),by unfold UB;rw [<- h3];first|done|rfl⟩
 ·have hM:NE p n=(Pr0,false):=by unfold NE;rw [show VB p=false by assumption];rfl
  rw [hM];exact ⟨_,.p (Sub.tup (SubL.cons z2a (SubL.cons (Sub.ff rfl) SubL.nil))),rfl⟩
theorem z2q {l:List Str} (h : ¬l.Nodup):XH l=true:=by
 cases hq:XH l with
 | true=>rfl
 | false=>exact absurd (ZI.1 hq) h
theorem ZK (l:List Str):SpecP Tryz.prog 312 [QM l] (fun r=>r = .bool (XH l)):=by
 refine sB NF Tryz.func312 rfl Tryz.call312 ?_;conv=>whnf
 refine iM fun _=>?_;have hl:(l.map AV.str).length=l.length:=length_map _;conv=>whnf
 refine LoopK.inv QX (fun j:Nat=>⟨[(0,.p (QM l)),(6,.p (.int .i64 (l.map AV.str).length)),(7,.p (.int .i64 j))],[]⟩) (fun j=>j<=l.length∧(l.take j).Nodup) (fun j=>l.length-j) 0 (Le.of_eq rfl) ⟨zero_le _,by simp⟩ ?_;rintro j ⟨h2,h3⟩;rcases Nat.lt_or_ge j l.length with hj|hj
 ·conv=>whnf
  repeat' (apply bD<;>intro _<;>first|omega|conv=>whnf)
  refine LoopK.inv QX (fun k:Nat=>⟨[(0,.p (QM l)),(3,.p (.int .i64 j)),(4,.p (.int .i64 k)),(6,.p (.int .i64 (l.map AV.str).length)),(7,.p (.int .i64 j))],[]⟩) (fun k=>k<=j ∧ ∀ s∈l.take k,s≠l[j]) (fun k=>j-k) 0 (Le.of_eq rfl) ⟨zero_le _,fun s hs=>by rw [List.take_zero] at hs;cases hs⟩ ?_;rintro k ⟨h4,h5⟩;rcases Nat.lt_or_ge k j with hk|hk
  ·conv=>whnf
   repeat' (first|((first|refine dA ?_|(refine iA fun _=>?_)|refine wI ?_);conv=>whnf)|(apply bD<;>intro _<;>first|omega|conv=>whnf)|(apply bB<;>intro _<;>conv=>whnf))
   ·refine RetK.tt (z2q fun hn => ?_);have he:l[j]=l[k]:=eq_of_beq (by assumption);have:=(List.getElem_inj hn).1 he;omega
   ·have he:(l[j]==l[k])=false:=by assumption
    refine ⟨k+1,⟨by omega,fun s hs => ?_⟩,by omega,Le.of_eq rfl⟩;rcases (QC (by omega)).1 hs with h6|rfl
    ·exact h5 s h6
    ·exact fun e=>by rw [e] at he;simp at he
  ·obtain rfl:k=j:=by omega
   conv=>whnf
   repeat' (first|(refine wI ?_;conv=>whnf)|(apply bD<;>intro _<;>first|omega|conv=>whnf))
   refine ⟨k+1,⟨by omega,?_⟩,by omega,Le.of_eq rfl⟩;rw [List.take_succ_eq_append_getElem hj,nodup_append];exact ⟨h3,by simp,fun a ha b hb e=>h5 a ha (by rw [e];exact List.mem_singleton.1 hb)⟩
 ·rw [take_of_length_le hj] at h3;conv=>whnf
  repeat' (apply bD<;>intro _<;>first|omega|conv=>whnf)
  exact RetK.ff (ZI.2 h3)
theorem LJ (f:Pr) (h1:f.params.length<=1000000):SpecP Tryz.prog 313 [.agg f.cells] (fun r=>r=QM (f.params.map Param.name)):=by
 refine sB BK Tryz.func313 rfl Tryz.call313 ?_;conv=>whnf
 refine iM fun _=>?_;have hl:(f.params.map fun a=>AV.agg a.cells).length=f.params.length:=length_map _;conv=>whnf
 refine LoopK.inv QX (fun j:Nat=>⟨[(3,.hd 0 0 j),(7,.p (.sl (f.params.map fun a=>AV.agg a.cells))),(8,.p (.int .i64 (f.params.map fun a=>AV.agg a.cells).length)),(9,.p (.int .i64 j))],[(0,.own 9 1 (((f.params.map Param.name).take j).map .str))]⟩) (fun j=>j<=f.params.length) (fun j=>f.params.length-j) 0
  (Le.mk [(0,.own 9 1 [])] (by simp [Chunk.new0];rfl) (by simp) (by simp) (.cons (.nil mem_cons_self) (.cons (.refl _) (.cons (.refl _) (.cons (.refl _) .nil)))) (.new mem_cons_self .nil)) (zero_le _) ?_
 intro j h3;rcases Nat.lt_or_ge j f.params.length with hj|hj
 ·have hr:((f.params.map Param.name).take (j+1))=(f.params.map Param.name).take j++[f.params[j].name]:=by
   rw [List.take_succ_eq_append_getElem (by simpa using hj),List.getElem_map]
  have hlt:((f.params.map Param.name).take j).length=j:=by simp;omega
  generalize (f.params.map Param.name).take j=acc at *
  conv=>whnf
  repeat' (first|((first|refine And.intro rfl ?_|refine aD ?_|refine bP ?_|(refine iA fun _=>?_)|refine wI ?_|refine XW (by simp;omega) (by simp;omega) ?_);conv=>whnf)|(apply bD<;>intro _<;>first|omega|conv=>whnf))
  exact ⟨j+1,by omega,by omega,Le.of_eq (by rw [hr];simp;rfl)⟩
 ·rw [take_of_length_le (by simpa using hj)];conv=>whnf
  repeat' (apply bD<;>intro _<;>first|omega|conv=>whnf)
  exact ⟨_,.hd rfl (by simp;omega),rfl⟩
theorem q3e (p:Pg) (f:Pr) (name:Str):SpecP Tryz.prog 314 [.agg p.cells,.agg f.cells,.str name] (fun r=>r = .int .i64 (FL p f name)):=by
 refine sB q0y Tryz.func314 rfl Tryz.call314 ?_;conv=>whnf
 repeat' (refine iM fun _=>?_;conv=>whnf)
 have hl:(f.params.map fun a=>AV.agg a.cells).length=f.params.length:=length_map _;refine LoopK.inv QX (fun j:Nat=>⟨[(2,.p (.str name)),(3,.p (.ip p.cells)),(4,.p (.ip f.cells)),(10,.p (.sl (f.params.map fun a => .agg a.cells))),(11,.p (.int .i64 (f.params.map fun a=>AV.agg a.cells).length)),(12,.p (.int .i64 j))],[]⟩) (fun j=>j<=f.params.length∧(f.params.drop j).find? (fun a=>a.name==name)=f.params.find? fun a=>a.name==name) (fun j=>f.params.length-j) 0 (Le.of_eq rfl) ⟨zero_le _,rfl⟩ ?_;rintro j ⟨h2,h3⟩;rcases Nat.lt_or_ge j f.params.length with hj|hj
 ·conv=>whnf
  repeat' (first|((first|refine And.intro rfl ?_|(refine iA fun _=>?_)|refine wI ?_);conv=>whnf)|(apply bD<;>intro _<;>first|omega|conv=>whnf)|(apply bB<;>intro _<;>conv=>whnf))
  all_goals first
   | (exfalso;simp_all;done)
   | (have e:=KC (p:=fun a:Param=>a.name==name) hj (by assumption)
      rw [h3] at e;exact RetK.int (by unfold FL;rw [e];simp [*]))
   | (refine ⟨j+1,⟨by omega,by rw [<- h3,PM (p:=fun a:Param=>a.name==name) hj (by assumption)]⟩,by omega,Le.of_eq rfl⟩)
 ·have e:f.params.find? (fun a=>a.name==name)=none:=by rw [<- h3,KR (by omega)]
  conv=>whnf
  repeat' (first|(refine cP (QE _ _) ?_;conv=>whnf)|(apply bD<;>intro _<;>first|omega|conv=>whnf)|(apply bB<;>intro _<;>conv=>whnf))
  all_goals
   simp only [q5k] at *
   exact RetK.int (by unfold FL;rw [e];simp [*])
theorem HT (t:S) (ha:t.args.length<=20000):SpecP Tryz.prog 44 [.agg t.cells] (fun r=>r=QM (WV t)):=by
 refine sB LC Tryz.func44 rfl Tryz.call44 ?_;conv=>whnf
 repeat' (first|((first|(refine iM fun _=>?_)|refine cP (KS _) ?_|refine And.intro rfl ?_|refine aD ?_|refine bP ?_|refine UH _ (by simp) (by have:=JF t.x;simp;omega) ?_|refine XW (by simp) (by simp) ?_);conv=>whnf)|(apply bE<;>intro _<;>first|omega|conv=>whnf)|(apply bN<;>intro _<;>conv=>whnf))
 all_goals simp only [show (ByteArray.mk #[]).data.toList=[] from rfl] at *
 all_goals
  have hl:(t.args.map fun a=>AV.agg a.cells).length=t.args.length:=length_map _;refine LoopK.inv QX (DT t 9) (fun j=>j<=t.args.length) (fun j=>t.args.length-j) 0 (Le.of_eq ?_) (zero_le _) ?_
  ·first
    | (have e:x6f t 0=WD t.x:=by simp [x6f,DM,show t.kind=10 by assumption]
       rw [DT,e];simp only [Nat.zero_add,length_map,length_append,List.map_append,nil_append];rfl)
    | (have e:x6f t 0=WD t.x:=by simp [x6f,DM,show t.name=[] by simpa using (show (t.name==[])=true by assumption)]
       rw [DT,e];simp only [Nat.zero_add,length_map,length_append,List.map_append,nil_append];rfl)
    | (have e:x6f t 0=[t.name]++WD t.x:=by
        have:(t.name==[])=false:=by assumption
        simp [x6f,DM,show ¬t.kind=10 by assumption,this]
       rw [DT,e];simp only [Nat.zero_add,length_map,length_append,List.map_append,nil_append];rfl)
  intro j h2;have hacc:=z4e t h2 ha;conv=>whnf
  repeat' (first|((first|refine cP (KS _) ?_|refine And.intro rfl ?_|refine aD ?_|refine bP ?_|(refine iA fun _=>?_)|refine wI ?_|refine UH _ (by simp) (by have:=JF (t.args[j]'(by omega)).x;simp;omega) ?_|refine XW (by simp) (by simp;omega) ?_);conv=>whnf)|(apply bD<;>intro _<;>first|omega|conv=>whnf)|(apply bB<;>intro _<;>conv=>whnf))
  all_goals first
   | exact ⟨_,.hd rfl (by simp),by
      have:t.args.take j=t.args:=take_of_length_le (by omega);rw [WV,<- this];rfl⟩
   | (have hj:j<t.args.length:=by omega
      have hst:=x8k hj;refine ⟨j+1,by show j+1<=_;omega,by show t.args.length-(j+1)<t.args.length-j;omega,Le.of_eq ?_⟩;first
       | (have hn:JQ t.args[j]=[t.args[j].name]++WD t.args[j].x:=by rw [JQ,show t.args[j].ref=true by assumption];rfl
          rw [DT,hst,hn];simp only [length_append,List.map_append,length_map,<- List.append_assoc,<- Nat.add_assoc];rfl)
       | (have hn:JQ t.args[j]=WD t.args[j].x:=by rw [JQ,show t.args[j].ref=false by assumption];rfl
          rw [DT,hst,hn];simp only [length_append,List.map_append,length_map];rfl))
theorem WX (p:Pg) (n:Str):SpecP Tryz.prog 311 [.agg p.cells,.str n] (fun r=>r = .tup [.agg (UB p n).1.cells,.bool (UB p n).2]):=by
 refine sB MJ Tryz.func311 rfl Tryz.call311 ?_;conv=>whnf
 have hpl:(p.procs.map fun f=>AV.agg f.cells).length=p.procs.length:=length_map _;repeat' (refine iM fun _=>?_;conv=>whnf)
 refine LoopK.inv QX (fun j:Nat=>⟨[(1,.p (.str n)),(4,.ptr 1 0),(9,.p (.sl (p.procs.map fun f => .agg f.cells))),(10,.p (.int .i64 (p.procs.map fun f=>AV.agg f.cells).length)),(11,.p (.int .i64 j))],[(1,.obj 68 [.p (.str []),.p .nils,.p .nils,.p .nils,.p .nils])]⟩) (fun j=>j<=p.procs.length∧(p.procs.drop j).find? (fun f=>f.name==n)=p.procs.find? fun f=>f.name==n) (fun j=>p.procs.length-j) 0 (Le.of_eq rfl) ⟨zero_le _,rfl⟩ ?_;rintro j ⟨h2,h3⟩;rcases Nat.lt_or_ge j p.procs.length with hj|hj
 ·rw [QH hj,List.find?_cons] at h3;conv=>whnf
  repeat' (first|((first|refine And.intro rfl ?_|(refine iA fun _=>?_)|refine wI ?_);conv=>whnf)|(apply bD<;>intro _<;>first|omega|conv=>whnf)|(apply bB<;>intro _<;>conv=>whnf))
  ·have hn:(p.procs[j].name==n)=true:=by assumption
   rw [hn] at h3;exact ⟨_,.p (Sub.tup (SubL.cons (Sub.refl _) (SubL.cons (Sub.tt rfl) SubL.nil))),by unfold UB;rw [<- h3];first|done|rfl⟩
  ·have hn:(p.procs[j].name==n)=false:=by assumption
   rw [hn] at h3;exact ⟨j+1,⟨hj,h3⟩,by omega,Le.of_eq rfl⟩
 ·rw [List.drop_eq_nil_of_le hj,List.find?_nil] at h3;conv=>whnf
  repeat' (first|(refine And.intro rfl ?_;conv=>whnf)|(apply bD<;>intro _<;>first|omega|conv=>whnf))
  exact ⟨_,.p (Sub.tup (SubL.cons z2a (SubL.cons (Sub.ff rfl) SubL.nil))),by unfold UB;rw [<- h3];first|done|rfl⟩
theorem w6r (p:Pg) (s:S):YW p s=(decide (s.kind=4)&&((UB p s.proc).2&&x0s (UB p s.proc).1.params s.args)):=by
 unfold YW UB;cases p.procs.find? (fun f=>f.name==s.proc)<;>rfl
theorem YD (p:Pg) (s:S):SpecP Tryz.prog 315 [.agg p.cells,.agg s.cells] (fun r=>r = .bool (YW p s)):=by
 refine sB DJ Tryz.func315 rfl Tryz.call315 ?_;conv=>whnf
 have hN:=WX p s.proc;have hF:=w6r p s;rw [hF];generalize (UB p s.proc).2=ok at *
 generalize (UB p s.proc).1=q at *
 have hal:(s.args.map fun a=>AV.agg a.cells).length=s.args.length:=length_map _;have hql:(q.params.map fun a=>AV.agg a.cells).length=q.params.length:=length_map _;repeat' (first|((first|(refine iM fun _=>?_)|refine And.intro rfl ?_|refine cP hN ?_);conv=>whnf)|(apply bE<;>intro _<;>first|omega|conv=>whnf)|(apply bN<;>intro _<;>conv=>whnf))
 all_goals first
  | (refine RetK.ff ?_;simp_all;done)
  | (refine RetK.ff ?_
     have:x0s q.params s.args=false:=by
      unfold x0s;rw [decide_eq_false_iff_not];intro he;have:=congrArg List.length he;simp at this;omega
     rw [this];simp)
  | skip
 have hk:s.kind=4:=by omega
 have hlen:s.args.length=q.params.length:=by omega
 have hok:ok=true:=by assumption
 rw [hok,decide_eq_true hk,Bool.true_and,Bool.true_and];refine LoopK.inv QX (fun j:Nat=>⟨[(3,.p (.ip s.cells)),(5,.p (.ip q.cells)),(33,.p (.int .i64 (s.args.map fun a=>AV.agg a.cells).length)),(34,.p (.int .i64 j))],[]⟩) (fun j=>j<=s.args.length ∧ ∀ k (hk:k<j) (h1:k<s.args.length) (h2:k<q.params.length),s.args[k].ref=q.params[k].ref) (fun j=>s.args.length-j) 0 (Le.of_eq rfl) ⟨zero_le _,fun k hk=>absurd hk (Nat.not_lt_zero _)⟩ ?_;rintro j ⟨h2,h3⟩;rcases Nat.lt_or_ge j s.args.length with hj|hj
 ·have hjq:j<q.params.length:=by omega
  conv=>whnf
  repeat' (first|((first|refine dA ?_|(refine iA fun _=>?_)|refine wI ?_|refine WN QX rfl rfl rfl rfl rfl ?_);conv=>whnf)|(apply bD<;>intro _<;>first|omega|conv=>whnf)|(apply bE<;>intro _<;>first|omega|conv=>whnf))
  all_goals first
   | (refine RetK.ff ?_
      unfold x0s;rw [decide_eq_false_iff_not];intro he;have h4:=congrArg (fun l=>l[j]?) he;simp only [List.getElem?_map,List.getElem?_eq_getElem hj,List.getElem?_eq_getElem hjq,Option.map_some] at h4;have h5:=Option.some.inj h4;simp_all
      done)
   | (refine ⟨j+1,⟨by omega,fun k hk h1 h2 => ?_⟩,by omega,Le.of_eq rfl⟩
      rcases Nat.lt_or_ge k j with h5|h5
      ·exact h3 k h5 h1 h2
      ·obtain rfl:k=j:=by omega
       simp_all)
 ·conv=>whnf
  repeat' (apply bD<;>intro _<;>first|omega|conv=>whnf)
  refine RetK.tt ?_;unfold x0s;rw [decide_eq_true_eq];refine List.ext_getElem (by simp;omega) fun k h4 h5 => ?_;simp only [length_map] at h4 h5;rw [List.getElem_map,List.getElem_map,h3 k (by omega) h5 h4]
theorem LE (f:Pr) (hl : ∀ x∈VN f,x.s.labels.length<=20000) (hf:f.fin.length<=20000):SpecP Tryz.prog 317 [.agg f.cells] (fun r=>r=QM ((VN f).flatMap (fun x=>x.s.labels)++f.fin)):=by
 refine sB PY Tryz.func317 rfl Tryz.call317 ?_;conv=>whnf
 have hF:=XX f;have hrl:=GO f;generalize VN f=L at *
 have hLl:=WK L;repeat' ((first|(refine iM fun _=>?_)|refine cP hF ?_);conv=>whnf)
 refine LoopK.inv QX (fun x:Nat×List Str=>⟨[(1,.p (.ip f.cells)),(3,.hd 0 0 x.2.length),(7,.p (KW L)),(8,.p (.int .i64 (L.map fun i=>AV.agg i.cells).length)),(9,.p (.int .i64 x.1))],[(0,.own 9 1 (x.2.map .str))]⟩) (fun x=>x.1<=L.length∧x.2=(L.take x.1).flatMap (fun x=>x.s.labels)∧x.2.length<=20000*x.1) (fun x=>L.length-x.1) (0,[])
  (Le.mk [(0,.own 9 1 [])] (by simp [Chunk.new0];rfl) (by simp) (by simp) (.cons (.refl _) (.cons (.nil mem_cons_self) (.cons (.refl _) (.cons (.refl _) (.cons (.refl _) .nil))))) (.new mem_cons_self .nil)) ⟨zero_le _,by simp,by simp⟩ ?_
 rintro ⟨j,acc⟩ ⟨h2,h3,h4⟩;simp only at h2 h3 h4 ⊢;rcases Nat.lt_or_ge j L.length with hj|hj
 ·have h5:=hl _ (List.getElem_mem hj);have h6:acc++L[j].s.labels=(L.take (j+1)).flatMap (fun x=>x.s.labels):=by rw [List.take_succ_eq_append_getElem hj,List.flatMap_append,<- h3];simp
  conv=>whnf
  repeat' (first|((first|refine And.intro rfl ?_|refine aD ?_|(refine iA fun _=>?_)|refine wI ?_|refine UH _ (by simp) (by simp;omega) ?_);conv=>whnf)|(apply bD<;>intro _<;>first|omega|conv=>whnf))
  exact ⟨(j+1,acc++L[j].s.labels),⟨by simp only;omega,h6,by simp;omega⟩,by simp only;omega,Le.of_eq (by simp;rfl)⟩
 ·rw [take_of_length_le hj] at h3;conv=>whnf
  repeat' (first|((first|refine aD ?_|refine UH _ (by simp) (by simp;omega) ?_);conv=>whnf)|(apply bD<;>intro _<;>first|omega|conv=>whnf))
  exact ⟨_,.hd rfl (by simp),by rw [<- h3];simp [QM]⟩
def MR (l:List RI) (fin:List Str) (label:Str):Int×Bool:=match l.find? fun x=>inS x.s.labels label with
 | some x=>(x.s.id,true)
 | none=>if inS fin label=true then (-1,true) else (0,false)
theorem q2p (l:List RI) (fin:List Str) (label:Str):SpecP Tryz.prog 333 [KW l,QM fin,.str label] (fun r=>r = .tup [.int .i64 (MR l fin label).1,.bool (MR l fin label).2]):=by
 refine sB NH Tryz.func333 rfl Tryz.call333 ?_;conv=>whnf
 refine iM fun _=>?_;have hLl:=WK l;conv=>whnf
 refine LoopK.inv QX (fun j:Nat=>⟨[(1,.p (QM fin)),(2,.p (.str label)),(10,.p (KW l)),(11,.p (.int .i64 (l.map fun i=>AV.agg i.cells).length)),(12,.p (.int .i64 j))],[]⟩) (fun j=>j<=l.length∧(l.drop j).find? (fun x=>inS x.s.labels label)=l.find? fun x=>inS x.s.labels label) (fun j=>l.length-j) 0 (Le.of_eq rfl) ⟨zero_le _,rfl⟩ ?_;rintro j ⟨h2,h3⟩;rcases Nat.lt_or_ge j l.length with hj|hj
 ·conv=>whnf
  repeat' (first|((first|refine cP (QE _ _) ?_|refine And.intro rfl ?_|(refine iA fun _=>?_)|refine wI ?_);conv=>whnf)|(apply bD<;>intro _<;>first|omega|conv=>whnf)|(apply bB<;>intro _<;>conv=>whnf))
  ·have e:=KC (p:=fun x:RI=>inS x.s.labels label) hj (by assumption);rw [h3] at e;exact RetK.tup2 (by unfold MR;rw [e]) (Sub.tt (by unfold MR;rw [e]))
  ·exact ⟨j+1,⟨by omega,by rw [<- h3,PM (p:=fun x:RI=>inS x.s.labels label) hj (by assumption)]⟩,by omega,Le.of_eq rfl⟩
 ·have e:l.find? (fun x=>inS x.s.labels label)=none:=by rw [<- h3,KR hj]
  conv=>whnf
  repeat' (first|(refine cP (QE _ _) ?_;conv=>whnf)|(apply bD<;>intro _<;>first|omega|conv=>whnf)|(apply bB<;>intro _<;>conv=>whnf))
  ·exact RetK.tup2 (by unfold MR;rw [e];simp [*]) (Sub.tt (by unfold MR;rw [e];simp [*]))
  ·exact RetK.tup2 (by unfold MR;rw [e];simp [*]) (Sub.ff (by unfold MR;rw [e];simp [*]))
theorem KZ (l:List RI) (id:Int):SpecP Tryz.prog 316 [KW l,.int .i64 id] (fun r=>r = .tup [.int .i64 (z0h l.reverse id).1,.bool (z0h l.reverse id).2]):=by
 refine sB PD Tryz.func316 rfl Tryz.call316 ?_;conv=>whnf
 refine iM fun _=>?_;have hLl:=WK l;conv=>whnf
 repeat' (refine wI ?_;conv=>whnf)
 refine LoopK.inv QX (fun n:Nat=>⟨[(0,.p (KW l)),(1,.p (.int .i64 id)),(6,.p (.int .i64 ((n:Int)-1)))],[]⟩) (fun n=>n<=l.length∧z0h (l.take n).reverse id=z0h l.reverse id) (fun n=>n) l.length (Le.of_eq (by rw [hLl])) ⟨Nat.le_refl _,by rw [List.take_length]⟩ ?_;rintro n ⟨h2,h3⟩;cases n with
 | zero =>
   rw [<- h3];conv=>whnf
   repeat' (apply bD<;>intro _<;>first|omega|conv=>whnf)
   exact RetK.tup2 rfl (Sub.ff rfl)
 | succ n =>
   have hn:n<l.length:=by omega
   have hst:=x7i hn id;have e1:((n+1:Nat):Int)-1=(n:Nat):=by omega
   rw [e1];conv=>whnf
   repeat' (first|((first|(refine iA fun _=>?_)|refine Wr.eq (m:=(n:Int)-1) rfl (by omega) (by omega) ?_);conv=>whnf)|(apply bD<;>intro _<;>first|omega|conv=>whnf)|(apply bE<;>intro _<;>first|omega|conv=>whnf))
   rotate_left 1
   ·rw [if_neg (by assumption)] at hst;exact ⟨n,⟨by omega,by rw [<- hst];exact h3⟩,by omega,Le.of_eq rfl⟩
   rw [if_pos (by omega)] at hst;refine LoopK.inv QX (fun x:Nat×Int=>⟨[(0,.p (KW l)),(1,.p (.int .i64 id)),(6,.p (.int .i64 n)),(7,.p (.int .i64 x.2)),(8,.p (.int .i64 ((x.1:Int)-1)))],[]⟩) (fun x=>x.1<=n∧GD (l.take x.1).reverse x.2=GD (l.take n).reverse l[n].inn) (fun x=>x.1) (n,l[n].inn) (Le.of_eq rfl) ⟨Nat.le_refl _,rfl⟩ ?_;rintro ⟨m,i⟩ ⟨h4,h5⟩;simp only at h4 h5 ⊢;cases m with
   | zero =>
     have e:GD (l.take 0).reverse i=(0,false):=rfl;rw [e] at h5;rw [<- h5,if_neg (by decide)] at hst;conv=>whnf
     repeat' (first|(refine Wr.eq (m:=(n:Int)-1) rfl (by omega) (by omega) ?_;conv=>whnf)|(apply bD<;>intro _<;>first|omega|conv=>whnf))
     exact ⟨n,⟨by omega,by rw [<- hst];exact h3⟩,by omega,Le.of_eq rfl⟩
   | succ m =>
     have hm:m<l.length:=by omega
     have hs2:=z6g hm i;have e2:((m+1:Nat):Int)-1=(m:Nat):=by omega
     rw [e2];conv=>whnf
     repeat' (first|((first|(refine iA fun _=>?_)|refine Wr.eq (m:=(n:Int)-1) rfl (by omega) (by omega) ?_|refine Wr.eq (m:=(m:Int)-1) rfl (by omega) (by omega) ?_);conv=>whnf)|(apply bD<;>intro _<;>first|omega|conv=>whnf)|(apply bE<;>intro _<;>first|omega|conv=>whnf))
     all_goals first
      | (rw [if_pos (by omega)] at hs2
         rw [hs2] at h5;rw [<- h5,if_neg (by decide)] at hst;exact ⟨n,⟨by omega,by rw [<- hst];exact h3⟩,by omega,Le.of_eq rfl⟩)
      | (rw [if_neg (by assumption),if_neg (by assumption)] at hs2
         exact ⟨(m,i),⟨by simp only;omega,by rw [<- hs2];exact h5⟩,by simp only;omega,Le.of_eq rfl⟩)
      | (rw [if_neg (by assumption),if_pos (by omega),if_pos (by assumption)] at hs2
         rw [hs2] at h5;rw [<- h5,if_pos rfl] at hst;rw [<- h3,hst];exact RetK.tup2 rfl (Sub.tt rfl))
      | (rw [if_neg (by assumption),if_pos (by omega),if_neg (by assumption)] at hs2
         exact ⟨(m,l[m].inn),⟨by simp only;omega,by rw [<- hs2];exact h5⟩,by simp only;omega,Le.of_eq rfl⟩)
      | trace_state
def pureL:LV->LV
 | .p a => .p a
 | _ => .p .any
def z6n:List (Nat×LV)->List (Nat×LV)
 | []=>[]
 | (j,l)::r=>(j,pureL l)::z6n r
theorem x6s : ∀ (sl:List (Nat×LV)) (i:Nat),getS (z6n sl) i=pureL (getS sl i)
 | [],i=>rfl
 | (j,l)::r,i=>by
   rw [z6n,getS,getS];cases j==i with
   | true=>rfl
   | false=>exact x6s r i
theorem FW {P:Program} {N:Nat} {g:FuncId} {args:List LV} {dst:Option Nat} {s:St} {K:St->Prop} {avs:List AV} {R:AV->Prop} (hs:SpecP P g avs R) (ha:FrzL s.H args avs)
  (h : ∀ c,R c->setD N (z6n s.sl) dst (.p c) fun sl=>K ⟨sl,[]⟩):CallK P N g args dst s K:=by
 refine ⟨fun σ β a w hr vals hn hv=>⟨hs.go vals,?_⟩⟩;obtain ⟨hlen,hget⟩:=ha.get;obtain ⟨τ,h5,h6,h7,h8⟩:=q7i hr.heap;refine (hs.ok τ w vals (hn.trans hlen) (fun j c hj => ?_) h6).mono fun e w' ⟨c,u,σ',he,hR,hrep,hle,hl,hf,hnew⟩ => ?_
 ·obtain ⟨l,h1,h2⟩:=hget j c hj;exact h8 l _ c (hv j l h1) h2
 ·have hr':Rel N σ' β ⟨z6n s.sl,[]⟩ a w':=⟨hr.size,hr.defers,fun i=>by
   show RepL σ' β (getS (z6n s.sl) i) _;rw [x6s];have:=hr.slots i;generalize getS s.sl i=l at this ⊢;cases l with
   | p x=>exact this.mono (Mem.le_trans h5 hle)
   | _=>exact .p (.any _),⟨hl,fun k c h=>(by cases h),List.nodup_nil,fun k h=>(by cases h),fun k h=>(by cases h)⟩⟩
  obtain ⟨sl,hK,hr''⟩:=hr'.setD (.p hrep) (h c hR);refine ⟨u,σ',β,_,he,hK,hr'',Mem.le_trans h5 hle,⟨hf.os,hf.tape,hf.output,hf.drawn,hf.size,fun b hb _=>hf.block b hb id⟩,fun b h0 h1 => ?_,fun b ⟨j,hj,_⟩=>(by cases hj),fun _ _ _=>rfl⟩;by_cases h2:τ b=none
  ·exact .inr (hnew b h2 h1)
  ·rcases h7 b h2 with h3|h3
   ·exact absurd h0 h3
   ·exact .inl h3
theorem VP (l:List Str) (hl:l.length<=1000000000):SpecP Tryz.prog 94 [QM l] (fun r=>r=QM (q9b l)):=by
 refine sB BT Tryz.func94 rfl Tryz.call94 ?_;conv=>whnf
 refine iM fun _=>?_;have hll:(l.map AV.str).length=l.length:=length_map _;conv=>whnf
 refine LoopK.inv QX (fun x:Nat×List Str=>⟨[(0,.p (QM l)),(3,.hd 0 0 x.2.length),(9,.p (.int .i64 (l.map AV.str).length)),(10,.p (.int .i64 x.1))],[(0,.own 9 1 (x.2.map .str))]⟩) (fun x=>x.1<=l.length∧RiseI ltT l x.2 x.1) (fun x=>l.length-x.1) (0,[])
  (Le.mk [(0,.own 9 1 [])] (by simp [Chunk.new0];rfl) (by simp) (by simp) (.cons (.refl _) (.cons (.nil mem_cons_self) (.cons (.refl _) (.cons (.refl _) .nil)))) (.new mem_cons_self .nil)) ⟨zero_le _,RiseI.zero⟩ ?_
 rintro ⟨i,out⟩ ⟨h2,h3⟩;simp only at h2 h3 ⊢;have hol:=h3.len ltT.irr;rcases Nat.lt_or_ge i l.length with hi|hi
 ·conv=>whnf
  repeat' (first|(refine iM fun _=>?_;conv=>whnf)|(apply bD<;>intro _<;>first|omega|conv=>whnf))
  refine LoopK.inv QX (fun x:Nat×Option Str=>⟨[(0,.p (QM l)),(3,.hd 0 0 out.length),(4,.p (.str (x.2.getD []))),(5,.p (.bool x.2.isSome)),(9,.p (.int .i64 (l.map AV.str).length)),(10,.p (.int .i64 i)),(12,.p (QM l)),(13,.p (.int .i64 (l.map AV.str).length)),(14,.p (.int .i64 x.1))],[(0,.own 9 1 (out.map .str))]⟩) (fun x=>x.1<=l.length∧LeastI ltT l out x.1 x.2) (fun x=>l.length-x.1) (0,none) (Le.mk [] (by simp) (by simp) (by simp) (.cons (.refl _) (.cons (.refl _) (.cons (.refl _) (.cons (.p (Sub.ff rfl)) (.cons (.refl _) (.cons (.refl _) (.cons (.refl _) (.cons (.refl _) (.cons (.refl _) .nil))))))))) (.cons rfl (.refl _) .nil)) ⟨zero_le _,LeastI.zero⟩ ?_;rintro ⟨k,o⟩ ⟨h4,h5⟩;simp only at h4 h5 ⊢;rcases Nat.lt_or_ge k l.length with hk|hk
  ·have hin:inS out l[k]=true->l[k]∈out:=z0i.1;have hno:inS out l[k]=false->l[k]∉out:=fun h hm=>by rw [z0i.2 hm] at h;cases h
   cases o with
   | none =>
     simp only [Option.getD_none,Option.isSome_none];conv=>whnf
     repeat' (first|((first|(refine iA fun _=>?_)|refine wI ?_|(refine QG (QE out (l[k]'hk)) (.cons (.hd rfl (by simp)) (.cons (.p (Sub.refl _)) .nil)) (by rintro _ rfl;rfl) ?_;rintro _ rfl));conv=>whnf)|(apply bD<;>intro _<;>first|omega|conv=>whnf)|(apply bN<;>intro _<;>conv=>whnf)|(apply bB<;>intro _<;>conv=>whnf))
     all_goals first
      | (exfalso;simp_all;done)
      | exact ⟨(k+1,none),⟨by simp only;omega,h5.old hk (hin (by assumption))⟩,by simp only;omega,Le.of_eq rfl⟩
      | exact ⟨(k+1,some l[k]),⟨by simp only;omega,h5.first hk (hno (by assumption))⟩,by simp only;omega,(Le.mk [] (by simp) (by simp) (by simp) (.cons (.refl _) (.cons (.refl _) (.cons (.refl _) (.cons (.p (Sub.tt rfl)) (.cons (.refl _) (.cons (.refl _) (.cons (.refl _) (.cons (.refl _) (.cons (.refl _) .nil))))))))) (.cons rfl (.refl _) .nil))⟩
   | some m =>
     simp only [Option.getD_some,Option.isSome_some];conv=>whnf
     repeat' (first|((first|(refine iA fun _=>?_)|refine wI ?_|(refine QG (QE out (l[k]'hk)) (.cons (.hd rfl (by simp)) (.cons (.p (Sub.refl _)) .nil)) (by rintro _ rfl;rfl) ?_;rintro _ rfl));conv=>whnf)|(apply bD<;>intro _<;>first|omega|conv=>whnf)|(apply bN<;>intro _<;>conv=>whnf)|(apply bB<;>intro _<;>conv=>whnf))
     all_goals first
      | (exfalso;simp_all;done)
      | exact ⟨(k+1,some m),⟨by simp only;omega,h5.old hk (hin (by assumption))⟩,by simp only;omega,Le.of_eq rfl⟩
      | exact ⟨(k+1,some l[k]),⟨by simp only;omega,h5.less ltT.trans hk (hno (by assumption)) (by assumption)⟩,by simp only;omega,(Le.mk [] (by simp) (by simp) (by simp) (.cons (.refl _) (.cons (.refl _) (.cons (.refl _) (.cons (.p (Sub.tt rfl)) (.cons (.refl _) (.cons (.refl _) (.cons (.refl _) (.cons (.refl _) (.cons (.refl _) .nil))))))))) (.cons rfl (.refl _) .nil))⟩
      | (have hb:Op.bytesLess l[k] m=false:=by assumption
         exact ⟨(k+1,some m),⟨by simp only;omega,h5.more (fun _ _=>ltT.total) hk (fun h=>by unfold ltT at h;rw [hb] at h;cases h)⟩,by simp only;omega,Le.of_eq rfl⟩)
  ·obtain rfl:k=l.length:=by omega
   cases o with
   | none =>
     simp only [Option.getD_none,Option.isSome_none];conv=>whnf
     repeat' (first|((first|refine And.intro rfl ?_|refine aD ?_|refine bP ?_|refine wI ?_);conv=>whnf)|(apply bD<;>intro _<;>first|omega|conv=>whnf)|(apply bB<;>intro _<;>conv=>whnf))
     all_goals first
      | (exfalso;simp_all;done)
      | exact ⟨(i+1,out),⟨by simp only;omega,h3.stay h5⟩,by simp only;omega,Le.of_eq rfl⟩
   | some m =>
     simp only [Option.getD_some,Option.isSome_some];conv=>whnf
     repeat' (first|((first|refine And.intro rfl ?_|refine aD ?_|refine bP ?_|refine wI ?_|refine XW (by simp) (by simp;omega) ?_);conv=>whnf)|(apply bD<;>intro _<;>first|omega|conv=>whnf)|(apply bB<;>intro _<;>conv=>whnf))
     all_goals first
      | (exfalso;simp_all;done)
      | exact ⟨(i+1,out++[m]),⟨by simp only;omega,h3.snoc h5⟩,by simp only;omega,Le.of_eq (by simp only [length_append,List.map_append];rfl)⟩
 ·obtain ⟨h6,h7⟩:=h3.all ltT.irr (by omega);rw [<- z3u h6 h7];conv=>whnf
  repeat' (apply bD<;>intro _<;>first|omega|conv=>whnf)
  exact ⟨_,.hd rfl (by simp),rfl⟩
def q5d (f:Pr):List Str:=((VN f).filter fun x=>decide (x.s.kind=4)).map fun x=>x.s.proc
theorem z7v (f:Pr):(q5d f).length<=201:=by
 unfold q5d;rw [length_map];exact Nat.le_trans (List.length_filter_le _ _) (GO f)
theorem q2n (p:Pg) (n:Str):SpecP Tryz.prog 391 [.agg p.cells,.str n] (fun r=>r=QM (q9b (q5d (UB p n).1))):=by
 refine sB MB Tryz.func391 rfl Tryz.call391 ?_;conv=>whnf
 have hN:=WX p n;generalize (UB p n).2=ok at *
 generalize (UB p n).1=f at *
 have hF:=XX f;have hcl:=z7v f;have hrl:=GO f;have hcu:q5d f=((VN f).filter fun x=>decide (x.s.kind=4)).map fun x=>x.s.proc:=rfl;have hS:=VP (q5d f) (by omega);generalize q5d f=C at *
 generalize VN f=L at *
 have hLl:=WK L;repeat' ((first|(refine iM fun _=>?_)|refine And.intro rfl ?_|refine cP hN ?_|refine cP hF ?_);conv=>whnf)
 refine LoopK.inv QX (fun x:Nat×List Str=>⟨[(7,.hd 0 0 x.2.length),(17,.p (KW L)),(18,.p (.int .i64 (L.map fun i=>AV.agg i.cells).length)),(19,.p (.int .i64 x.1))],[(0,.own 9 1 (x.2.map .str))]⟩) (fun x=>x.1<=L.length∧x.2=((L.take x.1).filter fun x=>decide (x.s.kind=4)).map (fun x=>x.s.proc)∧x.2.length<=x.1) (fun x=>L.length-x.1) (0,[])
  (Le.mk [(0,.own 9 1 [])] (by simp [Chunk.new0];rfl) (by simp) (by simp) (.cons (.nil mem_cons_self) (.cons (.refl _) (.cons (.refl _) (.cons (.refl _) .nil)))) (.new mem_cons_self .nil)) ⟨zero_le _,by simp,by simp⟩ ?_
 rintro ⟨j,acc⟩ ⟨h2,h3,h4⟩;simp only at h2 h3 h4 ⊢;rcases Nat.lt_or_ge j L.length with hj|hj
 ·have h6:=List.take_succ_eq_append_getElem hj;conv=>whnf
  repeat' (first|((first|refine And.intro rfl ?_|refine aD ?_|refine bP ?_|(refine iA fun _=>?_)|refine wI ?_|refine XW (by simp) (by simp;omega) ?_);conv=>whnf)|(apply bD<;>intro _<;>first|omega|conv=>whnf))
  all_goals first
   | exact ⟨(j+1,acc++[L[j].s.proc]),⟨by simp only;omega,by simp only;rw [h6,List.filter_append,List.map_append,<- h3];congr 1;rw [List.filter_cons_of_pos (by simp;assumption)];rfl,by simp;omega⟩,by simp only;omega,Le.of_eq (by simp only [length_append,List.map_append];rfl)⟩
   | exact ⟨(j+1,acc),⟨by simp only;omega,by simp only;rw [h6,List.filter_append,List.map_append,<- h3,List.filter_cons_of_neg (by simp;assumption)];simp,by simp only;omega⟩,by simp only;omega,Le.of_eq rfl⟩
 ·rw [take_of_length_le hj,<- hcu] at h3;subst h3;conv=>whnf
  repeat' (first|(refine FW hS (.cons (.hd rfl (by simp)) .nil) ?_;rintro _ rfl;conv=>whnf)|(apply bD<;>intro _<;>first|omega|conv=>whnf))
  exact RetK.p rfl
theorem w1t {p:Pg} (hm:VB p=true) {f:Pr} (hf:f∈p.procs):q9b (q5d f)=UR f:=by
 unfold q5d UR KL q9b;rw [JZ hm hf,<- show (flatU f).map RI.s=flL f.body from NA 1 0 false f.body,List.filter_map,List.map_map];rfl
theorem z4k {p:Pg} {k:Nat} (hk:k<p.procs.length) {n:Str} (h:p.procs.find? (fun f=>f.name==n)=some p.procs[k]):UB p n=(p.procs[k],true):=by
 unfold UB;rw [h]
theorem w4a {p:Pg} (hm:VB p=true) {k:Nat} (hk:k<p.procs.length) {n:Str} (h:p.procs.find? (fun f=>f.name==n)=some p.procs[k]):SpecP Tryz.prog 391 [.agg p.cells,.str n] (fun r=>r=QM (UR p.procs[k])):=by
 have:=q2n p n;rw [z4k hk h,w1t hm (List.getElem_mem hk)] at this;exact this
theorem LP (p:Pg) (n:Str) (hs:(QA p).1=0) (hn:n∈procsN p):SpecP Tryz.prog 372 [.agg p.cells,.str n] (fun r=>r=QM (z6a p n)):=by
 refine sB BF Tryz.func372 rfl Tryz.call372 ?_;conv=>whnf
 obtain ⟨hm,hb,hns⟩:=VH hs;obtain ⟨hg,hpl,hcn⟩:=ZG hm;have hnl:(procsN p).length=p.procs.length:=by simp [procsN]
 repeat' ((first|refine And.intro rfl ?_|refine aD ?_|refine BsK.own (fun x hx=>by rcases List.mem_singleton.1 hx with rfl;rfl) rfl ?_);conv=>whnf)
 refine LoopK.inv QX (fun i:Nat×List Str=>⟨[(2,.p (.ip p.cells)),(5,.hd 0 0 i.2.length),(6,.p (.int .i64 i.1))],[(0,.own 9 1 (i.2.map .str))]⟩)
  (fun i=>i.1<=i.2.length∧i.2.Nodup∧(∀ s∈i.2,s∈procsN p)∧VV p (p.procs.length+1-i.1) i.1 i.2=VV p (p.procs.length+1) 0 [n]) (fun i=>p.procs.length+1-i.1) (0,[n])
  (Le.of_eq rfl) ⟨zero_le _,by simp,by simpa using hn,rfl⟩ ?_
 rintro ⟨j,out⟩ ⟨h2,h3,h4,h5⟩;simp only at h2 h3 h4 h5 ⊢;have hol:=x4e h3 h4;rcases Nat.lt_or_ge j out.length with hj|hj
 ·obtain ⟨k,hk,hik,hfk,hnk⟩:=q0s (h4 _ (List.getElem_mem hj));have hcl:=x1p p.procs[k];have hcc:QV p.procs[k].body<=200:=by
   have:=(QJ p).2.2.2.2 k p.procs[k] (by simp);omega
  have hC:=w4a hm hk hfk;have g:(out.map AV.str)[j]? = some (.str out[j]):=by simp [hj]
  conv=>whnf
  repeat' (first|((first|(refine iM fun _=>?_)|refine dA ?_|refine And.intro rfl ?_|refine IdxL.mk j rfl hj ?_|refine LdOwn.mk j 0 (.str out[j]) (by omega) g ?_|refine cP hC ?_);conv=>whnf)|(apply bD<;>intro _<;>first|omega|conv=>whnf))
  have hkn : ∀ s∈UR p.procs[k],s∈procsN p:=fun s h=>BU hs (List.getElem_mem hk) h;have hcN:=x9m hk hfk;have hre:VV p (p.procs.length+1-j) j out=VV p (p.procs.length+1-(j+1)) (j+1) (WT out (UR p.procs[k])):=by
   rw [show p.procs.length+1-j=(p.procs.length+1-(j+1))+1 by omega,VV,List.getElem?_eq_getElem hj];simp only;rw [hcN]
  rw [hre] at h5;obtain ⟨hi1,hi2,rr,hi3⟩:=HE (UR p.procs[k]) h3 h4 hkn;generalize UR p.procs[k]=cs at hkn h5 hi1 hi2 hi3 hcl ⊢;have hcsl:(cs.map AV.str).length=cs.length:=length_map _;refine LoopK.inv QX (fun i:Nat×List Str=>⟨[(2,.p (.ip p.cells)),(5,.hd 0 0 i.2.length),(6,.p (.int .i64 j)),(22,.p (QM cs)),(23,.p (.int .i64 (cs.map AV.str).length)),(24,.p (.int .i64 i.1))],[(0,.own 9 1 (i.2.map .str))]⟩)
   (fun i=>i.1<=cs.length∧i.2.length<=out.length+i.1∧WT i.2 (cs.drop i.1)=WT out cs) (fun i=>cs.length-i.1) (0,out)
   (Le.of_eq rfl) ⟨zero_le _,by simp,rfl⟩ ?_
  rintro ⟨m,acc⟩ ⟨h6,h7,h8⟩;simp only at h6 h7 h8 ⊢;rcases Nat.lt_or_ge m cs.length with hm'|hm'
  ·have hst:=LW (out:=acc) hm';rw [<- q5k] at hst;conv=>whnf
   repeat' (first|((first|refine And.intro rfl ?_|refine aD ?_|refine bP ?_|(refine iA fun _=>?_)|refine wI ?_|(refine QG (QE acc (cs[m]'hm')) (.cons (.hd rfl (by simp)) (.cons (.p (Sub.refl _)) .nil)) (by rintro _ rfl;rfl) ?_;rintro _ rfl)|refine XW (by simp) (by simp;omega) ?_);conv=>whnf)|(apply bD<;>intro _<;>first|omega|conv=>whnf)|(apply bN<;>intro _<;>conv=>whnf))
   all_goals first
    | exact ⟨(m+1,acc),⟨by simp only;omega,by simp only;omega,by simp only;rw [<- h8,hst,if_pos (by assumption)]⟩,by simp only;omega,Le.of_eq rfl⟩
    | exact ⟨(m+1,acc++[cs[m]]),⟨by simp only;omega,by simp;omega,by simp only;rw [<- h8,hst,if_neg (by simp [*])]⟩,by simp only;omega,Le.of_eq (by simp only [length_append,List.map_append];rfl)⟩
  ·rw [List.drop_eq_nil_of_le hm',WT] at h8;subst h8;have hjl:j<(WT out cs).length:=by rw [hi3,length_append];omega
   conv=>whnf
   repeat' (first|(refine wI ?_;conv=>whnf)|(apply bD<;>intro _<;>first|omega|conv=>whnf))
   all_goals exact ⟨(j+1,WT out cs),⟨by simp only;omega,hi1,hi2,h5⟩,by simp only;omega,Le.of_eq rfl⟩
 ·have hend:out=VV p (p.procs.length+1) 0 [n]:=by
   rw [<- h5];cases hfu:p.procs.length+1-j with
   | zero=>rw [VV]
   | succ q=>rw [VV,List.getElem?_eq_none hj]
  have hall:q9b out=z6a p n:=by
   unfold z6a;rw [<- hend,z0r h3]
  have hS:=VP out (by omega);rw [hall] at hS;conv=>whnf
  repeat' (first|((first|(refine iM fun _=>?_)|(refine FW hS (.cons (.hd rfl (by simp)) .nil) ?_;rintro _ rfl));conv=>whnf)|(apply bD<;>intro _<;>first|omega|conv=>whnf))
  all_goals exact RetK.p rfl
end Go.Ab
