/- LAW: what must hold of a program, told without the places of faults. -/
import Derived.Test.YtneccajakpeodaaGreatCdepA5
import Derived.Test.YtneccajakpeodaaGreatCdepA9
import Derived.Test.YtneccajakpeodaaGreatCdepA14
import Derived.Test.YtneccajakpeodaaGreatCdepA15
import Derived.Test.YtneccajakpeodaaGreatCdepA18
set_option linter.unusedSimpArgs false
set_option linter.unusedVariables false
set_option maxRecDepth 100000
set_option maxHeartbeats 16000000
namespace Go.Ab
open Go.Proofs
theorem q4u (l:List Str) (x:Str):inS l x=l.any fun s=>x==s:=by
 unfold inS
 congr 1
 funext s
 exact Bool.beq_comm
theorem ZL {l:List Str}:XY l=false↔l.Nodup:=by
 refine ⟨z2v,fun h => ?_⟩
 unfold XY
 rw [List.any_eq_false]
 intro i hi
 rw [List.mem_range] at hi
 rw [Bool.not_eq_true,List.any_eq_false]
 intro s hs he
 rw [List.getElem?_eq_getElem hi] at he
 have he:l[i]=s:=eq_of_beq he
 obtain ⟨k,hk,rfl⟩:=List.mem_iff_getElem.1 hs
 rw [List.length_take] at hk
 rw [List.getElem_take] at he
 have:=(List.getElem_inj h).1 he
 omega
theorem MF : ∀ (l seen:List Str),seen.Nodup→((VC seen l).isSome=true↔(seen++l).Nodup)
 | [],seen,h=>by rw [VC,List.append_nil];exact ⟨fun _=>h,fun _=>rfl⟩
 | n::r,seen,h=>by
   rw [VC]
   cases hc:(seen.any fun s=>n==s) with
   | true =>
     rw [cond_true]
     obtain ⟨s,hs,he⟩:=List.any_eq_true.1 hc
     have he:n=s:=eq_of_beq he
     refine ⟨fun h=>by (cases h),fun h2 => ?_⟩
     rw [List.nodup_append] at h2
     exact absurd rfl (h2.2.2 s hs n List.mem_cons_self |> fun hh=>he▸hh)
   | false =>
     rw [cond_false]
     have hn:n∉seen:=fun hm=>by
      have:=List.any_eq_false.1 hc n hm
      simp at this
     have h1:(seen++[n]).Nodup:=by
      rw [List.nodup_append]
      exact ⟨h,by simp,fun a ha b hb e=>hn (by rw [← List.mem_singleton.1 hb,← e];exact ha)⟩
     rw [MF r (seen++[n]) h1,List.append_assoc]
     rfl
theorem x5m (f:Pr) : ∀ (its:List Item) (seen:List Str),seen.Nodup→((∃ s,UT f its seen = .ok s)↔(∀ it∈its,VY f it=true)∧(seen++its.flatMap fun it=>it.s.labels).Nodup)
 | [],seen,h=>by
   rw [UT]
   refine ⟨fun _=>⟨fun _ hh=>(by cases hh),by simpa using h⟩,fun _=>⟨seen,rfl⟩⟩
 | it::r,seen,h=>by
   have hj:=MF it.s.labels seen h
   rw [UT]
   cases hq:VC seen it.s.labels with
   | none =>
     rw [hq] at hj
     refine ⟨fun ⟨s,hs⟩=>by (cases hs),fun ⟨_,h2⟩ => ?_⟩
     have:(seen++it.s.labels).Nodup:=by
      rw [List.flatMap_cons,← List.append_assoc] at h2
      exact (List.nodup_append.1 h2).1
     have:=hj.2 this
     cases this
   | some s =>
     obtain rfl:=q0x hq
     rw [hq] at hj
     have hn:=hj.1 rfl
     simp only
     cases hl:VY f it with
     | false =>
       rw [cond_false]
       refine ⟨fun ⟨s,hs⟩=>by (cases hs),fun ⟨h1,_⟩ => ?_⟩
       have:=h1 it List.mem_cons_self
       rw [hl] at this
       cases this
     | true =>
       rw [cond_true,x5m f r _ hn,List.flatMap_cons,List.append_assoc]
       constructor
       ·rintro ⟨h1,h2⟩
        refine ⟨fun x hx => ?_,h2⟩
        rcases List.mem_cons.1 hx with rfl|hx
        ·exact hl
        ·exact h1 x hx
       ·rintro ⟨h1,h2⟩
        exact ⟨fun x hx=>h1 x (List.mem_cons_of_mem _ hx),h2⟩
theorem x0y (f:Pr) : ∀ (its:List Item) (seen s:List Str),UT f its seen = .ok s→s=seen++its.flatMap fun it=>it.s.labels
 | [],seen,s,h=>by rw [UT] at h;cases h;simp
 | it::r,seen,s,h=>by
   rw [UT] at h
   cases hq:VC seen it.s.labels with
   | none=>rw [hq] at h;cases h
   | some s2 =>
     obtain rfl:=q0x hq
     rw [hq] at h
     simp only at h
     cases hl:VY f it with
     | false=>rw [hl] at h;cases h
     | true =>
       rw [hl,cond_true] at h
       rw [x0y f r _ s h,List.flatMap_cons,List.append_assoc]
def q6f (f:Pr):List Str:=(flL f.body).flatMap S.labels++f.fin
def FB (p:Pg) (j:Nat) (f:Pr):Prop:=(∀ it∈itsOf p j f,VY f it=true)∧(q6f f).Nodup
theorem x0x (p:Pg) (j:Nat) (f:Pr):((itsOf p j f).flatMap fun it=>it.s.labels)=(flL f.body).flatMap S.labels:=by
 unfold itsOf
 rw [← MK (j:Nat) 0 (-1) 0 (QN p.procs j) f.body,List.flatMap_map]
theorem x0u {p:Pg} {j:Nat} {f:Pr} (hj:p.procs[j]? = some f):UP p j=none↔FB p j f:=by
 unfold UP FB q6f
 rw [hj]
 simp only
 have h1:=x5m f (itsOf p j f) [] List.nodup_nil
 rw [List.nil_append,x0x] at h1
 have h0:UT f (itL (j:Nat) 0 (-1) 0 (QN p.procs j) f.body) []=UT f (itsOf p j f) []:=rfl
 rw [h0]
 cases hq:UT f (itsOf p j f) [] with
 | error id =>
   rw [hq] at h1
   refine ⟨fun h=>by (cases h),fun ⟨h2,h3⟩ => ?_⟩
   obtain ⟨s,hs⟩:=h1.2 ⟨h2,(List.nodup_append.1 h3).1⟩
   cases hs
 | ok seen =>
   rw [hq] at h1
   have hs:=x0y f _ _ _ hq
   rw [List.nil_append,x0x] at hs
   obtain ⟨h2,h3⟩:=h1.1 ⟨seen,rfl⟩
   have hJ:=MF f.fin seen (by rw [hs];exact h3)
   simp only
   rw [← hs]
   cases hq2:VC seen f.fin with
   | none =>
     rw [hq2] at hJ
     refine ⟨fun h=>by (cases h),fun ⟨_,h4⟩ => ?_⟩
     have:=hJ.2 h4
     cases this
   | some s =>
     rw [hq2] at hJ
     exact ⟨fun _=>⟨h2,hJ.1 rfl⟩,fun _=>rfl⟩
theorem w2c {p:Pg} (hs:(QS p).1=0):(PT p).1=0 ↔ ∀ j f,p.procs[j]? = some f→FB p j f:=by
 unfold PT
 rw [if_neg (by omega)]
 cases hf:(List.range p.procs.length).findSome? (UP p) with
 | some a =>
   refine ⟨fun h=>by simp at h,fun h => ?_⟩
   obtain ⟨j,hj,hq⟩:=List.exists_of_findSome?_eq_some hf
   rw [List.mem_range] at hj
   have:=(x0u (List.getElem?_eq_getElem hj)).2 (h j _ (List.getElem?_eq_getElem hj))
   rw [this] at hq
   cases hq
 | none =>
   refine ⟨fun _ j f hj => ?_,fun _=>rfl⟩
   have hlt:j<p.procs.length:=(List.getElem?_eq_some_iff.1 hj).1
   exact (x0u hj).1 (List.findSome?_eq_none_iff.1 hf j (List.mem_range.2 hlt))
def allV (p:Pg) (f:Pr):List Str:=p.globals++x5s f
structure ScopeOK (p:Pg) (f:Pr):Prop where
 nd:(allV p f).Nodup
 kn : ∀ t∈flL f.body,knownB p f (procsN p) t=true
theorem q7y {p:Pg} {f:Pr} (hg:XY p.globals=false):WM p f=none↔ScopeOK p f:=by
 unfold WM
 have h1:(XY (x5s f)||(x5s f).any (fun n=>p.globals.any fun s=>n==s))=false↔(allV p f).Nodup:=by
  unfold allV
  rw [Bool.or_eq_false_iff,ZL,List.nodup_append,List.any_eq_false]
  have hgn:=ZL.1 hg
  constructor
  ·rintro ⟨a,b⟩
   refine ⟨hgn,a,fun x hx y hy e=>b y hy ?_⟩
   rw [List.any_eq_true]
   exact ⟨x,hx,by rw [e];exact beq_self_eq_true _⟩
  ·rintro ⟨_,a,b⟩
   refine ⟨a,fun y hy hh => ?_⟩
   obtain ⟨x,hx,he⟩:=List.any_eq_true.1 hh
   exact b x hx y hy (eq_of_beq he).symm
 cases hc:(XY (x5s f)||(x5s f).any (fun n=>p.globals.any fun s=>n==s)) with
 | true =>
   rw [cond_true]
   refine ⟨fun h=>by (cases h),fun h => ?_⟩
   have:=h1.2 h.nd
   rw [hc] at this
   cases this
 | false =>
   rw [cond_false,Option.map_eq_none_iff,List.find?_eq_none]
   constructor
   ·exact fun h=>⟨h1.1 hc,fun t ht=>by have:=h t ht;simpa using this⟩
   ·intro h t ht
    rw [h.kn t ht]
    decide
theorem z6l {p:Pg} (hm:WI p=true):(QS p).1=0↔ZH p=false ∧ ∀ f∈p.procs,ScopeOK p f:=by
 unfold QS
 rw [hm,cond_true]
 cases hb:ZH p with
 | true=>rw [cond_true];exact ⟨fun h=>by simp at h,fun h=>by cases h.1⟩
 | false =>
   have hg:XY p.globals=false:=by
    unfold ZH at hb
    rw [Bool.or_eq_false_iff] at hb
    exact hb.1
   rw [cond_false]
   cases hf:p.procs.findSome? (WM p) with
   | some a =>
     refine ⟨fun h=>by simp at h,fun h => ?_⟩
     obtain ⟨f,hm2,hq⟩:=List.exists_of_findSome?_eq_some hf
     rw [(q7y hg).2 (h.2 f hm2)] at hq
     cases hq
   | none=>exact ⟨fun _=>⟨rfl,fun f hm2=>(q7y hg).1 (List.findSome?_eq_none_iff.1 hf f hm2)⟩,fun _=>rfl⟩
theorem x5n {p:Pg} (hs:(QS p).1=0):(VK p).1=0 ↔ ∀ t∈YC p,t.kind=4→UM p t=true:=by
 unfold VK
 rw [if_neg (by omega)]
 cases hf:(YC p).find? fun t=>decide (t.kind=4) && !UM p t with
 | some t =>
   have h1:=List.mem_of_find?_eq_some hf
   have h2:=List.find?_some hf
   simp only [Bool.and_eq_true,decide_eq_true_eq,Bool.not_eq_true'] at h2
   refine ⟨fun h=>by simp at h,fun h => ?_⟩
   have:=h t h1 h2.1
   rw [h2.2] at this
   cases this
 | none =>
   refine ⟨fun _ t ht hk => ?_,fun _=>rfl⟩
   have:=List.find?_eq_none.1 hf t ht
   simp only [Bool.and_eq_true,decide_eq_true_eq,Bool.not_eq_true',not_and] at this
   simpa using this hk
theorem z8j {p:Pg} (ha:(VK p).1=0):(HV p).1=0 ↔ ∀ t∈YC p,t.kind=4→XH t.name (UK p t.proc) t.args []=true:=by
 unfold HV
 rw [if_neg (by omega)]
 cases hf:(YC p).find? fun t=>decide (t.kind=4) && !XH t.name (UK p t.proc) t.args [] with
 | some t =>
   have h1:=List.mem_of_find?_eq_some hf
   have h2:=List.find?_some hf
   simp only [Bool.and_eq_true,decide_eq_true_eq,Bool.not_eq_true'] at h2
   refine ⟨fun h=>by simp at h,fun h => ?_⟩
   have:=h t h1 h2.1
   rw [h2.2] at this
   cases this
 | none =>
   refine ⟨fun _ t ht hk => ?_,fun _=>rfl⟩
   have:=List.find?_eq_none.1 hf t ht
   simp only [Bool.and_eq_true,decide_eq_true_eq,Bool.not_eq_true',not_and] at this
   simpa using this hk
theorem x3t {p:Pg}:XK p=true↔WI p=true∧(QS p).1=0∧(VK p).1=0∧(PT p).1=0∧(HV p).1=0:=by
 refine ⟨QK,fun ⟨h1,h2,h3,h4,h5⟩ => ?_⟩
 unfold XK z5n
 rw [decide_eq_true_eq,if_neg (by rw [h1];decide),if_neg (by omega),if_neg (by omega),if_neg (by omega)]
 exact h5
theorem x6t {p:Pg} (h:WI p=true):(allR p).map RI.s=YC p:=by
 rw [q1e h]
 exact w4j p.procs
open Go.Proofs
theorem w5l {l:List Nat} {a:Nat} (h:a∈l):a≤z4n l:=by
 induction l with
 | nil=>cases h
 | cons b r ih =>
   rw [z4n]
   rcases List.mem_cons.1 h with rfl|h
   ·omega
   ·have:=ih h
    omega
theorem x0c : ∀ (n:Nat) (x:X) (k:Nat),wX x<k→GW n x≤n→PJ k x=true→WT n x=true
 | 0,x,k,_,h,_=>by rw [GW] at h;omega
 | n+1,x,0,hk,_,_=>by omega
 | n+1,x,k+1,hk,h,hf=>by
   rw [GW] at h
   rw [PJ,Bool.and_eq_true,List.all_eq_true] at hf
   obtain ⟨ho,hkids⟩:=hf
   have hxe:wX x=1+wXs x.kids:=by cases x;rw [wX];rfl
   have hk2 : ∀ y∈x.kids,WT n y=true:=fun y hy=>x0c n y k (by have:=x8p _ _ hy;omega) (by have:=w5l (List.mem_map.2 ⟨y,hy,rfl⟩:GW n y∈x.kids.map (GW n));omega) (hkids y hy)
   unfold KO at ho
   simp only [Bool.and_eq_true,Bool.or_eq_true,decide_eq_true_eq,beq_iff_eq] at ho
   obtain ⟨⟨⟨⟨h1,h2⟩,h3⟩,h4⟩,h5⟩:=ho
   rw [WT,Bool.and_eq_true,decide_eq_true_eq]
   refine ⟨h1.symm,?_⟩
   split
   ·rename_i h6
    rw [h6,decide_eq_false (by decide)] at h4
    simp_all
   ·rename_i h6
    split
    ·rename_i h7
     rw [decide_eq_true h7] at h4
     simp_all
    ·rename_i h7
     rw [decide_eq_false h7] at h4
     simp_all
theorem x8w (x:X):mayXR x=z7k x:=by
 rw [Bool.eq_iff_iff]
 refine ⟨fun h => ?_,z7h⟩
 unfold mayXR at h
 rw [Bool.and_eq_true,decide_eq_true_eq] at h
 exact x0c 20 x _ (Nat.lt_succ_self _) h.1 h.2
theorem w5z (a:Arg):argR a=LU a:=by
 unfold argR LU YV FF
 rw [x8w]
 cases a.ref<;>rfl
theorem w0c {s:S} (h:OneF s):oneOk s=true:=by
 obtain ⟨f1,f2,f3,f4,f5,f6,f7,f8,f9,f10,f11,f12,f13,f14⟩:=h
 have h11:s.args.all LU=true:=by
  rw [List.all_eq_true] at f11 ⊢
  exact fun a ha=>by rw [← w5z];exact f11 a ha
 rw [x8w] at f4
 have hk:s.kind=1∨s.kind=2∨s.kind=3∨s.kind=4∨s.kind=5∨s.kind=6∨s.kind=7∨s.kind=8∨s.kind=9∨s.kind=10:=by omega
 have hz : ∀ {α:Type} (l:List α),l.length=0→decide (0<l.length)=false:=fun l h=>decide_eq_false (by omega)
 have hnm : ¬(s.kind=1∨s.kind=2∨s.kind=10)→s.kind≠4→(s.name==[])=true:=fun h1 h2=>by
  rcases f8 h1 with h|h
  ·exact h
  ·exact absurd h.1 h2
 have hhas:s.kind≠9→s.has=false:=fun h=>by
  cases hq:s.has with
  | false=>rfl
  | true=>exact absurd (f6 hq) h
 unfold oneOk
 rw [Bool.and_eq_true]
 refine ⟨?_,f1⟩
 have key : ∀ (f:Flds),q0n s.kind s.has (s.name==[])=some f→f.has=false→(f.thn=false→s.thn.length=0)→(f.els=false→s.els.length=0)→(s.kind≠4→s.args.length=0)→YV s.name f.name=true→YV s.proc f.proc=true→FF s.x f.x=true→WP s=true:=fun f hf a1 a2 a3 a4 a5 a6 a7=>by
  rw [x1w hf,a1,a5,a6,a7,h11]
  have e1:(!f.thn&&decide (0<s.thn.length))=false:=by
   cases ht:f.thn with
   | true=>rfl
   | false=>rw [hz _ (a2 ht)];rfl
  have e2:(!f.els&&decide (0<s.els.length))=false:=by
   cases ht:f.els with
   | true=>rfl
   | false=>rw [hz _ (a3 ht)];rfl
  have e3:(!decide (s.kind=4)&&decide (0<s.args.length))=false:=by
   by_cases h4:s.kind=4
   ·rw [decide_eq_true h4];rfl
   ·rw [hz _ (a4 h4)];exact Bool.and_false _
  rw [e1,e2,e3]
  rfl
 have noP:s.kind≠4→YV s.proc false=true:=fun h=>f10 h
 rcases hk with hk|hk|hk|hk|hk|hk|hk|hk|hk|hk
 ·exact key ⟨true,false,true,s.has,false,false⟩ (by rw [hk];rfl) (hhas (by omega)) (fun _=>by omega) (fun _=>by omega) f12 (f7 (by omega)) (noP (by omega)) (f4 (by unfold hasXB;rw [hk];rfl))
 ·exact key ⟨true,false,false,s.has,false,false⟩ (by rw [hk];rfl) (hhas (by omega)) (fun _=>by omega) (fun _=>by omega) f12 (f7 (by omega)) (noP (by omega)) (f5 (by unfold hasXB;rw [hk];rfl))
 ·exact key ⟨false,false,true,s.has,false,false⟩ (by rw [hk];rfl) (hhas (by omega)) (fun _=>by omega) (fun _=>by omega) f12 (hnm (by omega) (by omega)) (noP (by omega)) (f4 (by unfold hasXB;rw [hk];rfl))
 ·refine key ⟨!(s.name==[]),true,false,s.has,false,false⟩ (by rw [hk];rfl) (hhas (by omega)) (fun _=>by omega) (fun _=>by omega) f12 ?_ (f9 hk) (f5 (by unfold hasXB;rw [hk];rfl))
  rcases f8 (by omega) with h|h
  ·rw [h];exact h
  ·rw [q2w h.2];exact h.2
 ·exact key ⟨false,false,true,s.has,true,true⟩ (by rw [hk];rfl) (hhas (by omega)) (fun h=>by cases h) (fun h=>by cases h) f12 (hnm (by omega) (by omega)) (noP (by omega)) (f4 (by unfold hasXB;rw [hk];rfl))
 ·exact key ⟨false,false,true,s.has,true,false⟩ (by rw [hk];rfl) (hhas (by omega)) (fun h=>by cases h) (fun _=>by omega) f12 (hnm (by omega) (by omega)) (noP (by omega)) (f4 (by unfold hasXB;rw [hk];rfl))
 ·exact key ⟨false,false,false,s.has,false,false⟩ (by rw [hk];rfl) (hhas (by omega)) (fun _=>by omega) (fun _=>by omega) f12 (hnm (by omega) (by omega)) (noP (by omega)) (f5 (by unfold hasXB;rw [hk];rfl))
 ·exact key ⟨false,false,false,s.has,false,false⟩ (by rw [hk];rfl) (hhas (by omega)) (fun _=>by omega) (fun _=>by omega) f12 (hnm (by omega) (by omega)) (noP (by omega)) (f5 (by unfold hasXB;rw [hk];rfl))
 ·refine key ⟨false,false,s.has,false,false,false⟩ (by rw [hk];rfl) rfl (fun _=>by omega) (fun _=>by omega) f12 (hnm (by omega) (by omega)) (noP (by omega)) ?_
  cases hh:s.has with
  | true=>exact f4 (by unfold hasXB;rw [hk,hh];rfl)
  | false=>exact f5 (by unfold hasXB;rw [hk,hh];rfl)
 ·exact key ⟨true,false,false,s.has,false,false⟩ (by rw [hk];rfl) (hhas (by omega)) (fun _=>by omega) (fun _=>by omega) f12 (f7 (by omega)) (noP (by omega)) (f5 (by unfold hasXB;rw [hk];rfl))
theorem w1k : ∀ (k:Nat) (l:List S) (i:Int) (e:Bool) (out:List RI),(flF k i e l out).length≤200→(∀ x∈flF k i e l out,x.deep≤12)→flF k i e l out=out++fuL (13-(k:Int)) i e l:=by
 intro k
 induction k with
 | zero =>
   intro l i e out h1 h2
   cases l with
   | nil=>rw [fuL,List.append_nil];rfl
   | cons s r =>
     exfalso
     have e0:flF 0 i e (s::r) out=flF 0 i e r (if out.length≤200 then out++[⟨s,13,i,e⟩] else out):=rfl
     rw [e0] at h1 h2
     have hl:=(FO 0 i e r (if out.length≤200 then out++[⟨s,13,i,e⟩] else out)).1
     by_cases ho:out.length≤200
     ·rw [if_pos ho] at h1 h2 hl
      have hpre : ∀ (r:List S) (o:List RI) (x:RI),x∈o→x∈flF 0 i e r o:=fun r=>by
       induction r with
       | nil=>exact fun o x hx=>hx
       | cons a r ih =>
         intro o x hx
         show x∈flF 0 i e r (if o.length≤200 then o++[⟨a,13,i,e⟩] else o)
         refine ih _ _ ?_
         split
         ·exact List.mem_append.2 (.inl hx)
         ·exact hx
      have:=h2 _ (hpre r _ ⟨s,13,i,e⟩ (List.mem_append.2 (.inr (List.mem_singleton.2 rfl))))
      simp at this
     ·rw [if_neg ho] at h1 hl
      omega
 | succ k ih =>
   intro l
   induction l with
   | nil=>intro i e out h1 h2;rw [fuL,List.append_nil];rfl
   | cons s r ihr =>
     intro i e out h1 h2
     have e0:flF (k+1) i e (s::r) out=flF (k+1) i e r (if out.length≤200 then flF k s.id true s.els (flF k s.id false s.thn (out++[⟨s,13-((k+1:Nat):Int),i,e⟩])) else out):=rfl
     rw [e0] at h1 h2 ⊢
     have hl:=(FO (k+1) i e r (if out.length≤200 then flF k s.id true s.els (flF k s.id false s.thn (out++[⟨s,13-((k+1:Nat):Int),i,e⟩])) else out)).1
     have ho:out.length≤200:=by
      refine Classical.byContradiction fun hq => ?_
      rw [if_neg hq] at hl h1
      omega
     rw [if_pos ho] at h1 h2 hl ⊢
     have h3:=ihr i e _ h1 h2
     rw [h3] at h2
     have h2' : ∀ x∈flF k s.id true s.els (flF k s.id false s.thn (out++[⟨s,13-((k+1:Nat):Int),i,e⟩])),x.deep≤12:=fun x hx=>h2 x (List.mem_append.2 (.inl hx))
     have h4:=ih s.els s.id true _ (by omega) h2'
     rw [h4] at h2'
     have h2'' : ∀ x∈flF k s.id false s.thn (out++[⟨s,13-((k+1:Nat):Int),i,e⟩]),x.deep≤12:=fun x hx=>h2' x (List.mem_append.2 (.inl hx))
     have hl2:=(FO k s.id true s.els (flF k s.id false s.thn (out++[⟨s,13-((k+1:Nat):Int),i,e⟩]))).1
     have h5:=ih s.thn s.id false _ (by omega) h2''
     have ed:(13:Int)-((k+1:Nat):Int)+1=13-(k:Int):=by omega
     rw [h3,h4,h5,fuL,x1v,ed]
     simp
mutual
theorem w5b (d i:Int) (e:Bool) (seen:Nat) : ∀ (t:S),(fuS d i e t).map (fun x=>x.s.id)=YF seen (ZJ t)→(∀ x∈fuS d i e t,x.deep≤12∧oneOk x.s=true)→seen+ZJ t≤200→q4i d seen t=some ((seen+ZJ t:Nat):Int)
 | .mk id kind labels name proc x has args thn els,h1,h2,h3=>by
   have hc:ZJ (.mk id kind labels name proc x has args thn els)=1+QY thn+QY els:=ZO _
   rw [fuS] at h1 h2
   rw [hc] at h1 h3 ⊢
   have hsp:YF seen (1+QY thn+QY els)=((seen:Int)+1)::(YF (seen+1) (QY thn)++YF (seen+1+QY thn) (QY els)):=by
    rw [← FZ]
    unfold YF
    rw [show 1+QY thn+QY els=(QY thn+QY els)+1 by omega,List.range'_succ,List.map_cons]
    congr 1
   rw [hsp,List.map_cons,List.map_append] at h1
   have hid:id=(seen:Int)+1:=(List.cons.inj h1).1
   have h1':=(List.cons.inj h1).2
   have hlen:((fuL (d+1) id false thn).map fun x=>x.s.id).length=(YF (seen+1) (QY thn)).length:=by
    rw [List.length_map,WQ];unfold YF;simp
   obtain ⟨ha,hb⟩:=List.append_inj h1' hlen
   have hok:=h2 _ List.mem_cons_self
   have r1:=x3q (d+1) id false (seen+1) thn ha (fun x hx=>h2 x (List.mem_cons_of_mem _ (List.mem_append.2 (.inl hx)))) (by omega)
   have r2:=x3q (d+1) id true (seen+1+QY thn) els hb (fun x hx=>h2 x (List.mem_cons_of_mem _ (List.mem_append.2 (.inr hx)))) (by omega)
   have hoo:=hok.2
   unfold oneOk at hoo
   rw [Bool.and_eq_true] at hoo
   rw [q4i,if_neg (by omega),if_neg (by omega),show namesB labels=true from hoo.2,cond_true,show WP (.mk id kind labels name proc x has args thn els)=true from hoo.1,cond_true]
   have e1:(seen:Int)+1=((seen+1:Nat):Int):=by omega
   rw [e1,r1]
   simp only
   rw [r2]
   congr 1
   omega
theorem x3q (d i:Int) (e:Bool) (seen:Nat) : ∀ (l:List S),(fuL d i e l).map (fun x=>x.s.id)=YF seen (QY l)→(∀ x∈fuL d i e l,x.deep≤12∧oneOk x.s=true)→seen+QY l≤200→ZG d seen l=some ((seen+QY l:Nat):Int)
 | [],_,_,_=>by rw [ZG,QY];rfl
 | t::r,h1,h2,h3=>by
   rw [fuL] at h1 h2
   have hc:QY (t::r)=ZJ t+QY r:=by rw [QY]
   rw [hc] at h1 h3 ⊢
   rw [FZ,List.map_append] at h1
   have hlen:((fuS d i e t).map fun x=>x.s.id).length=(YF seen (ZJ t)).length:=by
    have:=WQ d i e [t]
    rw [fuL,fuL,List.append_nil,QY,QY] at this
    rw [List.length_map,this];unfold YF;simp
   obtain ⟨ha,hb⟩:=List.append_inj h1 hlen
   have hd:d≤12:=by
    have:(⟨t,d,i,e⟩:RI)∈fuS d i e t++fuL d i e r:=List.mem_append.2 (.inl (by rw [x1v];exact List.mem_cons_self))
    exact (h2 _ this).1
   have r1:=w5b d i e seen t ha (fun x hx=>h2 x (List.mem_append.2 (.inl hx))) (by omega)
   have r2:=x3q d i e (seen+ZJ t) r hb (fun x hx=>h2 x (List.mem_append.2 (.inr hx))) (by omega)
   rw [ZG,if_neg (by omega),r1]
   simp only
   rw [r2]
   congr 1
   omega
end
theorem x4i : ∀ (l:List Pr) (seen:Nat),(∀ f∈l,KL f=true)→((l.flatMap flatU).map fun x=>x.s.id)=YF seen (cntP l)→(∀ x∈l.flatMap flatU,x.deep≤12∧oneOk x.s=true)→seen+cntP l≤200→(XL seen l).isSome=true
 | [],_,_,_,_,_=>rfl
 | f::r,seen,h1,h2,h3,h4=>by
   rw [List.flatMap_cons] at h2 h3
   have hc:cntP (f::r)=QY f.body+cntP r:=by rw [cntP]
   rw [hc] at h2 h4
   rw [FZ,List.map_append] at h2
   have hlen:((flatU f).map fun x=>x.s.id).length=(YF seen (QY f.body)).length:=by
    unfold flatU
    rw [List.length_map,WQ];unfold YF;simp
   obtain ⟨ha,hb⟩:=List.append_inj h2 hlen
   have r1:=x3q 1 0 false seen f.body ha (fun x hx=>h3 x (List.mem_append.2 (.inl hx))) (by omega)
   have r2:=x4i r (seen+QY f.body) (fun g hg=>h1 g (List.mem_cons_of_mem _ hg)) hb (fun x hx=>h3 x (List.mem_append.2 (.inr hx))) (by omega)
   rw [XL,h1 f List.mem_cons_self,cond_true,r1]
   exact r2
theorem z5q : ∀ (l:List Pr) (out:List RI),(FA l out).length≤200→(∀ x∈FA l out,x.deep≤12)→FA l out=out++l.flatMap flatU:=by
 intro l
 induction l with
 | nil=>intro out _ _;show out=_;simp
 | cons f r ih =>
   intro out h1 h2
   have mono : ∀ (r:List Pr) (o:List RI),o.length≤(FA r o).length:=fun r=>by
    induction r with
    | nil=>exact fun o=>Nat.le_refl _
    | cons g r ih =>
      intro o
      show _≤(FA r (if o.length≤200 then o++ZR g else o)).length
      have:=ih (if o.length≤200 then o++ZR g else o)
      split at this
      ·rw [if_pos (by assumption)]
       simp only [List.length_append] at this
       omega
      ·rw [if_neg (by assumption)]
       exact this
   have e0:FA (f::r) out=FA r (if out.length≤200 then out++ZR f else out):=rfl
   rw [e0] at h1 h2 ⊢
   have hm:=mono r (if out.length≤200 then out++ZR f else out)
   have ho:out.length≤200:=by
    refine Classical.byContradiction fun hq => ?_
    rw [if_neg hq] at hm h1
    omega
   rw [if_pos ho] at h1 h2 hm ⊢
   have h3:=ih _ h1 h2
   rw [h3] at h2 h1 ⊢
   simp only [List.length_append] at h1
   have h4:=w1k 12 f.body 0 false [] (by show (ZR f).length≤200;omega) (fun x hx=>h2 x (List.mem_append.2 (.inl (List.mem_append.2 (.inr hx)))))
   have h5:ZR f=flatU f:=by simpa [ZR,flatU] using h4
   rw [h5]
   simp
theorem w8d {p:Pg} (h1:p.globals.length≤16) (h2:p.procs.length≤16) (h3:namesB p.globals=true) (h4 : ∀ f∈p.procs,KL f=true) (h5:(allR p).length≤200) (h6 : ∀ (k:Nat) (x:RI),(allR p)[k]? = some x→x.s.id=(k:Int)+1∧x.deep≤12∧oneOk x.s=true):WI p=true:=by
 have hmem : ∀ x∈allR p,x.deep≤12∧oneOk x.s=true:=fun x hx=>by
  obtain ⟨k,hk,rfl⟩:=List.mem_iff_getElem.1 hx
  exact (h6 k _ (List.getElem?_eq_getElem hk)).2
 have he:allR p=p.procs.flatMap flatU:=by
  have:=z5q p.procs [] h5 (fun x hx=>(hmem x hx).1)
  simpa [allR] using this
 have hids:(p.procs.flatMap flatU).map (fun x=>x.s.id)=YF 0 (cntP p.procs):=by
  refine List.ext_getElem? fun k => ?_
  rw [List.getElem?_map,← he]
  rcases Nat.lt_or_ge k (allR p).length with hk|hk
  ·have hk2:k<cntP p.procs:=by rw [← LE,← he];exact hk
   rw [List.getElem?_eq_getElem hk]
   have:=(h6 k _ (List.getElem?_eq_getElem hk)).1
   unfold YF
   rw [List.getElem?_map,List.getElem?_range' hk2]
   simp only [Option.map_some,this]
   congr 1
   omega
  ·have hk2:cntP p.procs≤k:=by rw [← LE,← he];exact hk
   rw [List.getElem?_eq_none hk,List.getElem?_eq_none (by unfold YF;simpa using hk2)]
   rfl
 have hlen:0+cntP p.procs≤200:=by rw [← LE,← he];omega
 have:=x4i p.procs 0 h4 hids (fun x hx=>hmem x (by rw [he];exact hx)) hlen
 unfold WI
 rw [decide_eq_true h1,decide_eq_true h2,h3]
 exact this
open Go.Proofs
def spo (out:List Str) (s:Str):List Str:=if (out.any fun y=>s==y)=false then out++[s] else out
theorem w0o (x:X) (out:List Str):q9l x out=GY x.kids (if x.op=2 then spo out x.name else out):=by
 rw [x2t]
 unfold spo
 by_cases h:x.op=2
 ·rw [if_pos h]
  by_cases h2:(out.any fun y=>x.name==y)=false
  ·rw [if_pos ⟨h,h2⟩,if_pos h2]
  ·rw [if_neg (fun hh=>h2 hh.2),if_neg h2]
 ·rw [if_neg h,if_neg (fun hh=>h hh.1)]
theorem NC (out:List Str) (s:Str) (ho:out.length≤1073741824):SpecH Tryz.prog 253 [.hd 2000 0 out.length,.p (.str s)] (x3w 9 out) (fun r H=>r = .hd 2000 0 (spo out s).length∧H=x3w 9 (spo out s)):=by
 refine SpecH.body DN QQ Tryz.func253 rfl Tryz.call253 (by show 2≤_;decide) ?_
 conv=>whnf
 repeat' (intro (_:_≤9223372036854775807);conv=>whnf)
 have hl:(out.map AV.str).length=out.length:=List.length_map _
 refine LoopK.inv QQ (fun j:Nat=>⟨[(0,.hd 2000 0 out.length),(1,.p (.str s)),(7,.hd 2000 0 out.length),(8,.p (.int .i64 out.length)),(9,.p (.int .i64 j))],x3w 9 out⟩) (fun j=>j≤out.length∧(out.drop j).any (fun y=>s==y)=out.any fun y=>s==y) (fun j=>out.length-j) 0 (Le.of_eq rfl) ⟨Nat.zero_le _,rfl⟩ ?_
 rintro j ⟨h2,h3⟩
 rcases Nat.lt_or_ge j out.length with hj|hj
 ·have g:(out.map AV.str)[j]? = some (.str out[j]):=by simp [hj]
  conv=>whnf
  repeat' (first|((first|refine And.intro rfl ?_|refine Wr.i64 (by omega) (by omega) ?_|refine IdxL.mk j rfl (by omega) ?_|refine LdOwn.mk j 0 _ (by omega) g ?_);conv=>whnf)|(refine Br.dec (fun _=>?_) (fun _=>?_)<;>first|(exfalso;omega)|conv=>whnf)|(refine Br.b (fun _=>?_) (fun _=>?_)<;>conv=>whnf))
  ·have he:(s==out[j])=true:=by rw [Bool.beq_comm];assumption
   have e:=q2d (p:=fun y=>s==y) hj he
   rw [h3] at e
   have hs:spo out s=out:=by unfold spo;rw [if_neg (by rw [e];decide)]
   exact ⟨_,.refl _,by rw [hs];exact ⟨rfl,rfl⟩⟩
  ·have he:(s==out[j])=false:=by rw [Bool.beq_comm];assumption
   exact ⟨j+1,⟨by omega,by rw [← h3,q3s (p:=fun y=>s==y) hj he]⟩,by omega,Le.of_eq rfl⟩
 ·have e:=BP (p:=fun y=>s==y) (l:=out) hj
  rw [h3] at e
  have hs:spo out s=out++[s]:=by unfold spo;rw [if_pos e]
  rw [hs]
  conv=>whnf
  repeat' (first|((first|refine And.intro rfl ?_|(refine And.intro ⟨by decide,by decide⟩ ?_)|refine BsK.pure (fun x hx=>by rcases List.mem_singleton.1 hx with rfl;rfl) rfl ?_|refine AppK.str1 (by simp) (by simp;omega) ?_);conv=>whnf)|(refine Br.dec (fun _=>?_) (fun _=>?_)<;>first|(exfalso;omega)|conv=>whnf))
  exact ⟨_,.refl _,by simp only [x3w,List.length_append,List.map_append];exact ⟨rfl,rfl⟩⟩
theorem q2m : ∀ (n:Nat) (_:n≤20) (x:X) (_:WT n x=true) (out:List Str) (_:out.length+2 ^ n≤1073741824),
  SpecH Tryz.prog 179 [.p (.agg x.cells),.hd 2000 0 out.length] (x3w 9 out) (fun r H=>r = .hd 2000 0 (q9l x out).length∧H=x3w 9 (q9l x out)):=by
 intro n
 induction n with
 | zero=>intro _ x h;rw [WT] at h;cases h
 | succ n ih =>
   intro hn x hx out ho
   have hp:2 ^ (n+1)=2*2 ^ n:=by rw [Nat.pow_succ];omega
   have hpos:0<2 ^ n:=Nat.pow_pos (by decide)
   obtain ⟨hk1,hk2,hk3⟩:=q1r hx
   have hxl:=X.avs_len x.kids
   have hmul : ∀ j,j<x.kids.length→(x.kids.length-j)*2 ^ n=(x.kids.length-(j+1))*2 ^ n+2 ^ n:=fun j hj=>by
    rw [show x.kids.length-j=(x.kids.length-(j+1))+1 by omega,Nat.add_mul,Nat.one_mul]
   have hmul0:x.kids.length*2 ^ n≤2*2 ^ n:=Nat.mul_le_mul_right _ hk1
   have hspl:(spo out x.name).length≤out.length+1:=by unfold spo;split<;>simp
   have hg:=w0o x out
   have hz:x.op=2→x.kids.length*2 ^ n=0:=fun h=>by rw [hk2 h,Nat.zero_mul]
   rw [hg]
   have hS:=NC out x.name (by omega)
   have hlen:(if x.op=2 then spo out x.name else out).length+x.kids.length*2 ^ n≤1073741824:=by
    split
    ·rename_i h;have:=hz h;omega
    ·omega
   clear hg
   refine SpecH.body MH QQ Tryz.func179 rfl Tryz.call179 (by show 2≤_;decide) ?_
   conv=>whnf
   generalize spo out x.name=o2 at *
   repeat' (first|(intro (_:_≤9223372036854775807);conv=>whnf)|(refine Br.dec (fun _=>?_) (fun _=>?_)<;>first|(exfalso;omega)|conv=>whnf)|(refine CallK.heap [(2000,2000)] 0 (by repeat' (first|exact ArgsH.nil|refine ArgsH.cons ?_ ?_|exact LSub.refl _|exact LSub.p Sub.nils|exact LSub.p (Sub.tt rfl)|exact LSub.p (Sub.ff rfl)|exact LSub.p (Sub.int (by omega)))) (by refine BlksH.cons (j:=2000) rfl rfl ?_ ?_;exact CSub.refl _;exact BlksH.nil) hS rfl rfl ?_;rintro l' H' ⟨rfl,rfl⟩;conv=>whnf))
   all_goals
    first
    | rw [if_pos (by assumption)] at hlen ⊢
    | rw [if_neg (by assumption)] at hlen ⊢
   rotate_left 1
   generalize out=o2 at *
   all_goals
    refine LoopK.inv QQ (fun i:Nat×List Str=>⟨[(1,.hd 2000 0 i.2.length),(2,.p (.ip x.cells)),(15,.p (.int .i64 (X.avs x.kids).length)),(16,.p (.int .i64 i.1))],x3w 9 i.2⟩) (fun i=>i.1≤x.kids.length∧GY (x.kids.drop i.1) i.2=GY x.kids o2∧i.2.length+(x.kids.length-i.1)*2 ^ n≤1073741824) (fun i=>x.kids.length-i.1) (0,o2) (Le.of_eq rfl) ⟨Nat.zero_le _,rfl,by simpa using hlen⟩ ?_
    rintro ⟨j,acc⟩ ⟨h2,h3,h4⟩
    simp only at h2 h3 h4 ⊢
    rcases Nat.lt_or_ge j x.kids.length with hj|hj
    ·have hm:=hmul j hj
     have hg:=x8m n x.kids[j] acc (hk3 _ (List.getElem_mem hj))
     have hI:=ih (by omega) x.kids[j] (hk3 _ (List.getElem_mem hj)) acc (by omega)
     conv=>whnf
     repeat' (first|((first|refine IdxK.xs (by omega) ?_|refine Wr.i64 (by omega) (by omega) ?_);conv=>whnf)|(refine Br.dec (fun _=>?_) (fun _=>?_)<;>first|(exfalso;omega)|conv=>whnf)|(refine CallK.heap [(2000,2000)] 0 (by repeat' (first|exact ArgsH.nil|refine ArgsH.cons ?_ ?_|exact LSub.refl _|exact LSub.p Sub.nils|exact LSub.p (Sub.tt rfl)|exact LSub.p (Sub.ff rfl)|exact LSub.p (Sub.int (by omega)))) (by refine BlksH.cons (j:=2000) rfl rfl ?_ ?_;exact CSub.refl _;exact BlksH.nil) hI rfl rfl ?_;rintro l' H' ⟨rfl,rfl⟩;conv=>whnf))
     all_goals exact ⟨(j+1,q9l x.kids[j] acc),⟨by simp only;omega,by simp only;rw [← h3,q9t hj],by simp only;omega⟩,by simp only;omega,Le.of_eq rfl⟩
    ·rw [x5x (by omega)] at h3
     conv=>whnf
     repeat' (refine Br.dec (fun _=>?_) (fun _=>?_)<;>first|(exfalso;omega)|conv=>whnf)
     exact ⟨_,.refl _,by rw [h3];exact ⟨rfl,rfl⟩⟩
theorem HK (x:X):SpecP Tryz.prog 178 [.agg x.cells] (fun r=>r = .bool (z7k x)):=by
 refine SpecP.body UZ QQ Tryz.func178 rfl Tryz.call178 (by show 1≤_;decide) ?_
 conv=>whnf
 repeat' (first|((first|(refine CallK.pure (GV 20 (by omega) x) (.cons (Sub.refl _) (.cons (Sub.refl _) .nil)) ?_;rintro _ rfl)|(refine CallK.pure (HQ (wX x+1) x (by omega)) (.cons (Sub.refl _) .nil) ?_;rintro _ rfl));conv=>whnf)|(refine Br.dec (fun _=>?_) (fun _=>?_)<;>first|(exfalso;omega)|conv=>whnf))
 all_goals rw [← x8w]
 all_goals first
  | exact RetK.bool (by unfold mayXR;rw [decide_eq_true (by omega)];rfl)
  | exact RetK.ff (by unfold mayXR;rw [decide_eq_false (by omega)];rfl)
theorem KQ (x:X):SpecP Tryz.prog 121 [.agg x.cells] (fun r=>r=QD (WV x)):=by
 refine SpecP.body PU QQ Tryz.func121 rfl Tryz.call121 (by show 1≤_;decide) ?_
 conv=>whnf
 have hM:=HK x
 unfold WV
 cases hm:z7k x with
 | false =>
   rw [hm] at hM
   repeat' (first|(refine CallK.pure hM (.cons (Sub.refl _) .nil) ?_;rintro _ rfl;conv=>whnf)|(refine Br.n (fun _=>?_) (fun _=>?_)<;>conv=>whnf))
   all_goals first
    | exact ⟨_,.p Sub.nils,rfl⟩
    | (exfalso;simp_all;done)
 | true =>
   rw [hm] at hM
   repeat' (first|(refine CallK.pure hM (.cons (Sub.refl _) .nil) ?_;rintro _ rfl;conv=>whnf)|(refine Br.n (fun _=>?_) (fun _=>?_)<;>conv=>whnf))
   all_goals first
    | (exfalso;simp_all;done)
    | (refine CallK.nil 5 9 1 rfl (.cons rfl (.row .nil)) ?_
       refine CallK.heap [(2000,5)] 0 (by repeat' (first|exact ArgsH.nil|refine ArgsH.cons ?_ ?_|exact LSub.refl _|exact LSub.p Sub.nils|exact LSub.p (Sub.tt rfl)|exact LSub.p (Sub.ff rfl)|exact LSub.p (Sub.int (by omega)))) (by refine BlksH.cons (j:=5) rfl rfl ?_ ?_;exact CSub.refl _;exact BlksH.nil) (q2m 20 (by omega) x (by assumption) [] (by simp)) rfl rfl ?_
       rintro l' H' ⟨rfl,rfl⟩
       conv=>whnf
       exact ⟨_,.hd rfl (by simp),rfl⟩)
open Go.Proofs
theorem q8x {s:S} (h:oneOk s=true→False):oneOk s=false:=by
 cases hq:oneOk s with
 | false=>rfl
 | true=>exact (h hq).elim
theorem MD (s:S):SpecP Tryz.prog 177 [.agg s.cells] (fun r=>r = .bool (oneOk s)):=by
 refine SpecP.body q0z QQ Tryz.func177 rfl Tryz.call177 (by show 1≤_;decide) ?_
 conv=>whnf
 have hal:(s.args.map fun a=>AV.agg a.cells).length=s.args.length:=List.length_map _
 have htl:((S.avs s.thn).length:Int)=s.thn.length:=by rw [S.avs_len]
 have hel:((S.avs s.els).length:Int)=s.els.length:=by rw [S.avs_len]
 repeat' (first|((first|intro (_:_≤9223372036854775807)|(refine CallK.pure (XM _) (by repeat' (first|exact ArgP.nil|refine ArgP.cons ?_ ?_|exact Sub.refl _|exact Sub.tt rfl|exact Sub.ff rfl)) ?_;rintro _ rfl)|(refine CallK.pure (VT _) (by repeat' (first|exact ArgP.nil|refine ArgP.cons ?_ ?_|exact Sub.refl _|exact Sub.tt rfl|exact Sub.ff rfl)) ?_;rintro _ rfl)|(refine CallK.pure (GD _) (by repeat' (first|exact ArgP.nil|refine ArgP.cons ?_ ?_|exact Sub.refl _|exact Sub.tt rfl|exact Sub.ff rfl)) ?_;rintro _ rfl)|(refine CallK.pure (YX _) (by repeat' (first|exact ArgP.nil|refine ArgP.cons ?_ ?_|exact Sub.refl _|exact Sub.tt rfl|exact Sub.ff rfl)) ?_;rintro _ rfl)|refine ValO.boolNeq QQ rfl rfl rfl rfl rfl ?_);conv=>whnf)|(refine Br.dec (fun _=>?_) (fun _=>?_)<;>first|(exfalso;omega)|conv=>whnf)|(refine Br.dec2 (fun _=>?_) (fun _=>?_)<;>first|(exfalso;omega)|conv=>whnf)|(refine Br.n (fun _=>?_) (fun _=>?_)<;>conv=>whnf)|(refine Br.b (fun _=>?_) (fun _=>?_)<;>conv=>whnf))
 all_goals simp only [show (ByteArray.mk #[]).data.toList=[] from rfl] at *
 all_goals first
  | (refine RetK.ff (q8x fun h => ?_)
     obtain ⟨f1,f2,f3,f4,f5,f6,f7,f8,f9,f10,f11,f12,f13,f14⟩:=UG h
     first
      | omega
      | (exfalso;simp_all [hasXB];done)
      | (exfalso;simp_all [hasXB];omega)
      | (rename_i hq
         by_cases hk:s.kind=4
         ·have h15:=q2w (f9 hk)
          simp_all
          done
         ·have h15:=f10 hk
          simp_all
          done))
  | skip
 all_goals
  have G:s.args.all argR=true→(s.thn.length=0∨s.kind=5∨s.kind=6)→(s.els.length=0∨s.kind=5)→oneOk s=true:=fun g1 g2 g3=>by
   refine w0c ⟨by assumption,by omega,by omega,fun q => ?_,fun q => ?_,fun q => ?_,fun q => ?_,fun q => ?_,fun q => ?_,fun q => ?_,g1,fun q => ?_,g2,g3⟩
   all_goals clear hal htl hel g1 g2 g3
   all_goals first
    | omega
    | assumption
    | (simp_all [hasXB];done)
    | (simp_all [hasXB];omega)
    | (have h4:(s.kind==4) = !(s.proc==[]):=by assumption
       have h5:(s.kind==4)=false:=beq_eq_false_iff_ne.2 (by assumption)
       rw [h5] at h4
       revert h4
       cases (s.proc==[])<;>simp
       done)
    | trace_state
  refine LoopK.inv QQ (fun j:Nat=>⟨[(1,.p (.ip s.cells)),(143,.p (.sl (s.args.map fun a => .agg a.cells))),(144,.p (.int .i64 (s.args.map fun a=>AV.agg a.cells).length)),(145,.p (.int .i64 j))],[]⟩) (fun j=>j≤s.args.length∧(s.args.drop j).all argR=s.args.all argR) (fun j=>s.args.length-j) 0 (Le.of_eq rfl) ⟨Nat.zero_le _,rfl⟩ ?_
  rintro j ⟨h2,h3⟩
  rcases Nat.lt_or_ge j s.args.length with hj|hj
  ·conv=>whnf
   repeat' (first|((first|(refine CallK.pure (q4s _) (by repeat' (first|exact ArgP.nil|refine ArgP.cons ?_ ?_|exact Sub.refl _|exact Sub.tt rfl|exact Sub.ff rfl)) ?_;rintro _ rfl)|refine And.intro rfl ?_|refine IdxK.map (by omega) (fun _=>rfl) ?_|refine Wr.i64 (by omega) (by omega) ?_);conv=>whnf)|(refine Br.dec (fun _=>?_) (fun _=>?_)<;>first|(exfalso;omega)|conv=>whnf)|(refine Br.n (fun _=>?_) (fun _=>?_)<;>conv=>whnf))
   all_goals first
    | exact ⟨j+1,⟨hj,by rw [KC hj (by assumption)];exact h3⟩,by omega,Le.of_eq rfl⟩
    | (refine RetK.ff (q8x fun h => ?_)
       have h4:=List.all_eq_true.1 (UG h).args _ (List.getElem_mem hj)
       simp_all)
  ·rw [KH hj] at h3
   have G:=G h3.symm
   conv=>whnf
   repeat' (first|(intro (_:_≤9223372036854775807);conv=>whnf)|(refine Br.dec (fun _=>?_) (fun _=>?_)<;>first|(exfalso;omega)|conv=>whnf))
   all_goals first
    | exact RetK.tt (G (by omega) (by omega))
    | (refine RetK.ff (q8x fun h => ?_)
       have F1:=(UG h).thn
       have F2:=(UG h).els
       omega)
    | (refine RetK.bool ?_
       first
        | rw [Bool.eq_iff_iff,beq_iff_eq]
        | rw [Bool.eq_iff_iff,decide_eq_true_eq]
       exact ⟨fun q=>G (by omega) (by omega),fun h=>by have F1:=(UG h).thn;have F2:=(UG h).els;omega⟩)
    | trace_state
open Go.Proofs
theorem DU {p:Pg} (h:WI p=true→False):WI p=false:=by
 cases hq:WI p with
 | false=>rfl
 | true=>exact (h hq).elim
theorem JP (p:Pg):SpecP Tryz.prog 120 [.agg p.cells] (fun r=>r = .bool (WI p)):=by
 refine SpecP.body q0c QQ Tryz.func120 rfl Tryz.call120 (by show 1≤_;decide) ?_
 conv=>whnf
 have hgl:(p.globals.map AV.str).length=p.globals.length:=List.length_map _
 have hpl:(p.procs.map fun f=>AV.agg f.cells).length=p.procs.length:=List.length_map _
 repeat' (first|((first|intro (_:_≤9223372036854775807)|(refine CallK.pure (VT _) (by repeat' (first|exact ArgP.nil|refine ArgP.cons ?_ ?_|exact Sub.refl _|exact Sub.tt rfl|exact Sub.ff rfl)) ?_;rintro _ rfl));conv=>whnf)|(refine Br.dec (fun _=>?_) (fun _=>?_)<;>first|(exfalso;omega)|conv=>whnf)|(refine Br.n (fun _=>?_) (fun _=>?_)<;>conv=>whnf))
 all_goals first
  | (refine RetK.ff (DU fun h => ?_)
     have F:=BM h
     have F1:=F.gl
     have F2:=F.pl
     have F3:=F.gn
     first
      | omega
      | (simp_all;done))
  | skip
 have G1:p.globals.length≤16:=by omega
 have G2:p.procs.length≤16:=by omega
 have G3:namesB p.globals=true:=by assumption
 refine LoopK.inv QQ (fun j:Nat=>⟨[(1,.p (.ip p.cells)),(26,.p (.sl (p.procs.map fun f => .agg f.cells))),(27,.p (.int .i64 (p.procs.map fun f=>AV.agg f.cells).length)),(28,.p (.int .i64 j))],[]⟩) (fun j=>j≤p.procs.length ∧ ∀ m (hm:m<p.procs.length),m<j→KL p.procs[m]=true) (fun j=>p.procs.length-j) 0 (Le.of_eq rfl) ⟨Nat.zero_le _,fun m hm h=>absurd h (Nat.not_lt_zero _)⟩ ?_
 rintro j ⟨h2,G4⟩
 rcases Nat.lt_or_ge j p.procs.length with hj|hj
 ·have hpm:(p.procs[j].params.map fun a=>AV.agg a.cells).length=p.procs[j].params.length:=List.length_map _
  have hvs:(p.procs[j].vars.map AV.str).length=p.procs[j].vars.length:=List.length_map _
  conv=>whnf
  repeat' (first|((first|intro (_:_≤9223372036854775807)|(refine CallK.pure (VT _) (by repeat' (first|exact ArgP.nil|refine ArgP.cons ?_ ?_|exact Sub.refl _|exact Sub.tt rfl|exact Sub.ff rfl)) ?_;rintro _ rfl)|(refine CallK.pure (XM _) (by repeat' (first|exact ArgP.nil|refine ArgP.cons ?_ ?_|exact Sub.refl _|exact Sub.tt rfl|exact Sub.ff rfl)) ?_;rintro _ rfl)|refine And.intro rfl ?_|refine IdxK.map (by omega) (fun _=>rfl) ?_);conv=>whnf)|(refine Br.dec (fun _=>?_) (fun _=>?_)<;>first|(exfalso;omega)|conv=>whnf)|(refine Br.n (fun _=>?_) (fun _=>?_)<;>conv=>whnf))
  all_goals first
   | (refine RetK.ff (DU fun h => ?_)
      obtain ⟨F1,F2,F3,F4,F5,F6⟩:=(BM h).pr _ (List.getElem_mem hj)
      first
       | omega
       | (simp_all;done))
   | skip
  have G5:(p.procs[j].params.all fun a=>isName a.name)=true→KL p.procs[j]=true:=fun g=>BX.2 ⟨by omega,by omega,by assumption,by assumption,by assumption,g⟩
  refine LoopK.inv QQ (fun k:Nat=>⟨[(1,.p (.ip p.cells)),(26,.p (.sl (p.procs.map fun f => .agg f.cells))),(27,.p (.int .i64 (p.procs.map fun f=>AV.agg f.cells).length)),(28,.p (.int .i64 j)),(61,.p (.sl (p.procs[j].params.map fun a => .agg a.cells))),(62,.p (.int .i64 (p.procs[j].params.map fun a=>AV.agg a.cells).length)),(63,.p (.int .i64 k))],[]⟩) (fun k=>k≤p.procs[j].params.length∧(p.procs[j].params.drop k).all (fun a=>isName a.name)=p.procs[j].params.all fun a=>isName a.name) (fun k=>p.procs[j].params.length-k) 0 (Le.of_eq rfl) ⟨Nat.zero_le _,rfl⟩ ?_
  rintro k ⟨h3,h4⟩
  rcases Nat.lt_or_ge k p.procs[j].params.length with hk|hk
  ·conv=>whnf
   repeat' (first|((first|(refine CallK.pure (XM _) (by repeat' (first|exact ArgP.nil|refine ArgP.cons ?_ ?_|exact Sub.refl _|exact Sub.tt rfl|exact Sub.ff rfl)) ?_;rintro _ rfl)|refine And.intro rfl ?_|refine IdxK.map (by omega) (fun _=>rfl) ?_|refine Wr.i64 (by omega) (by omega) ?_);conv=>whnf)|(refine Br.dec (fun _=>?_) (fun _=>?_)<;>first|(exfalso;omega)|conv=>whnf)|(refine Br.n (fun _=>?_) (fun _=>?_)<;>conv=>whnf))
   ·exact ⟨k+1,⟨hk,by rw [← h4,KC (p:=fun a:Param=>isName a.name) hk (by assumption)]⟩,by omega,Le.of_eq rfl⟩
   ·refine RetK.ff (DU fun h => ?_)
    have h5:=List.all_eq_true.1 ((BM h).pr _ (List.getElem_mem hj)).2.2.2.2.2 _ (List.getElem_mem hk)
    simp_all
  ·rw [KH hk] at h4
   have G6:=G5 h4.symm
   conv=>whnf
   repeat' (first|(refine Wr.i64 (by omega) (by omega) ?_;conv=>whnf)|(refine Br.dec (fun _=>?_) (fun _=>?_)<;>first|(exfalso;omega)|conv=>whnf))
   refine ⟨j+1,⟨hj,fun m hm hmj => ?_⟩,by omega,Le.of_eq rfl⟩
   rcases Nat.lt_or_ge m j with h5|h5
   ·exact G4 m hm h5
   ·obtain rfl:m=j:=by omega
    exact G6
 ·have G5 : ∀ f∈p.procs,KL f=true:=fun f hf=>by
   obtain ⟨m,hm,rfl⟩:=List.mem_iff_getElem.1 hf
   exact G4 m hm (by omega)
  conv=>whnf
  have hrl:=ZI (allR p)
  repeat' (first|((first|intro (_:_≤9223372036854775807)|(refine CallK.pure (UR _) (by repeat' (first|exact ArgP.nil|refine ArgP.cons ?_ ?_|exact Sub.refl _|exact Sub.tt rfl|exact Sub.ff rfl)) ?_;rintro _ rfl));conv=>whnf)|(refine Br.dec (fun _=>?_) (fun _=>?_)<;>first|(exfalso;omega)|conv=>whnf))
  ·refine RetK.ff (DU fun h => ?_)
   have:=(BM h).len
   omega
  have G6:(allR p).length≤200:=by omega
  refine LoopK.inv QQ (fun k:Nat=>⟨[(7,.p (YN (allR p))),(79,.p (.int .i64 ((allR p).map fun i=>AV.agg i.cells).length)),(80,.p (.int .i64 k))],[]⟩) (fun k=>k≤(allR p).length ∧ ∀ (m:Nat) (x:RI),m<k→(allR p)[m]? = some x→x.s.id=(m:Int)+1∧x.deep≤12∧oneOk x.s=true) (fun k=>(allR p).length-k) 0 (Le.of_eq rfl) ⟨Nat.zero_le _,fun m x h=>absurd h (Nat.not_lt_zero _)⟩ ?_
  rintro k ⟨h3,G7⟩
  rcases Nat.lt_or_ge k (allR p).length with hk|hk
  ·conv=>whnf
   have F:=fun h:WI p=true=>(BM h).its k _ (List.getElem?_eq_getElem hk)
   repeat' (first|((first|refine IdxK.map (by omega) (fun _=>rfl) ?_|refine Wr.i64 (by omega) (by omega) ?_|(refine CallK.pure (MD (allR p)[k].s) (.cons (Sub.refl _) .nil) ?_;rintro _ rfl));conv=>whnf)|(refine Br.dec (fun _=>?_) (fun _=>?_)<;>first|(exfalso;omega)|conv=>whnf)|(refine Br.dec2 (fun _=>?_) (fun _=>?_)<;>first|(exfalso;omega)|conv=>whnf)|(refine Br.n (fun _=>?_) (fun _=>?_)<;>conv=>whnf))
   all_goals first
    | (refine ⟨k+1,⟨hk,fun m x hm hx => ?_⟩,by omega,Le.of_eq rfl⟩
       rcases Nat.lt_or_ge m k with h5|h5
       ·exact G7 m x h5 hx
       ·obtain rfl:m=k:=by omega
        rw [List.getElem?_eq_getElem hk] at hx
        obtain rfl:=Option.some.inj hx
        exact ⟨by omega,by omega,by assumption⟩)
    | (refine RetK.ff (DU fun h => ?_)
       obtain ⟨F1,F2,F3⟩:=F h
       first
        | omega
        | (simp_all
           done))
  ·conv=>whnf
   repeat' (refine Br.dec (fun _=>?_) (fun _=>?_)<;>first|(exfalso;omega)|conv=>whnf)
   exact RetK.tt (w8d G1 G2 G3 G5 G6 fun m x hx=>G7 m x (by have:=(List.getElem?_eq_some_iff.1 hx).1;omega) hx)
def NQ (p:Pg) (n:Str):Pr×Bool:=bif WI p then VE p n else (Pr0,false)
theorem ZY (p:Pg) (n:Str):SpecP Tryz.prog 58 [.agg p.cells,.str n] (fun r=>r = .tup [.agg (NQ p n).1.cells,.bool (NQ p n).2]):=by
 refine SpecP.body MN QQ Tryz.func58 rfl Tryz.call58 (by show 2≤_;decide) ?_
 conv=>whnf
 have hpl:(p.procs.map fun f=>AV.agg f.cells).length=p.procs.length:=List.length_map _
 repeat' (first|((first|intro (_:_≤9223372036854775807)|(refine CallK.pure (JP _) (by repeat' (first|exact ArgP.nil|refine ArgP.cons ?_ ?_|exact Sub.refl _|exact Sub.tt rfl|exact Sub.ff rfl)) ?_;rintro _ rfl)|refine And.intro rfl ?_);conv=>whnf)|(refine Br.b (fun _=>?_) (fun _=>?_)<;>conv=>whnf))
 ·have hM:NQ p n=VE p n:=by unfold NQ;rw [show WI p=true by assumption];rfl
  rw [hM]
  refine LoopK.inv QQ (fun j:Nat=>⟨[(1,.p (.str n)),(4,.ptr 1 0),(11,.p (.sl (p.procs.map fun f => .agg f.cells))),(12,.p (.int .i64 (p.procs.map fun f=>AV.agg f.cells).length)),(13,.p (.int .i64 j))],[(1,.obj 67 [.p (.str []),.p .nils,.p .nils,.p .nils,.p .nils])]⟩) (fun j=>j≤p.procs.length∧(p.procs.drop j).find? (fun f=>f.name==n)=p.procs.find? fun f=>f.name==n) (fun j=>p.procs.length-j) 0 (Le.of_eq rfl) ⟨Nat.zero_le _,rfl⟩ ?_
  rintro j ⟨h2,h3⟩
  rcases Nat.lt_or_ge j p.procs.length with hj|hj
  ·rw [QG hj,List.find?_cons] at h3
   conv=>whnf
   repeat' (first|((first|refine And.intro rfl ?_|refine IdxK.map (by omega) (fun _=>rfl) ?_|refine Wr.i64 (by omega) (by omega) ?_);conv=>whnf)|(refine Br.dec (fun _=>?_) (fun _=>?_)<;>first|(exfalso;omega)|conv=>whnf)|(refine Br.b (fun _=>?_) (fun _=>?_)<;>conv=>whnf))
   ·have hn:(p.procs[j].name==n)=true:=by assumption
    rw [hn] at h3
    exact ⟨_,.p (Sub.tup (SubL.cons (Sub.refl _) (SubL.cons (Sub.tt rfl) SubL.nil))),by unfold VE;rw [← h3];first|done|rfl⟩
   ·have hn:(p.procs[j].name==n)=false:=by assumption
    rw [hn] at h3
    exact ⟨j+1,⟨hj,h3⟩,by omega,Le.of_eq rfl⟩
  ·rw [List.drop_eq_nil_of_le hj,List.find?_nil] at h3
   conv=>whnf
   repeat' (first|(refine And.intro rfl ?_;conv=>whnf)|(refine Br.dec (fun _=>?_) (fun _=>?_)<;>first|(exfalso;omega)|conv=>whnf))
   exact ⟨_,.p (Sub.tup (SubL.cons x9t (SubL.cons (Sub.ff rfl) SubL.nil))),by unfold VE;rw [← h3];first|done|rfl⟩
 ·have hM:NQ p n=(Pr0,false):=by unfold NQ;rw [show WI p=false by assumption];rfl
  rw [hM]
  exact ⟨_,.p (Sub.tup (SubL.cons x9t (SubL.cons (Sub.ff rfl) SubL.nil))),rfl⟩
open Go.Proofs
theorem x7o {l:List Str} (h : ¬l.Nodup):XY l=true:=by
 cases hq:XY l with
 | true=>rfl
 | false=>exact absurd (ZL.1 hq) h
theorem ZZ (l:List Str):SpecP Tryz.prog 268 [QD l] (fun r=>r = .bool (XY l)):=by
 refine SpecP.body PA QQ Tryz.func268 rfl Tryz.call268 (by show 1≤_;decide) ?_
 conv=>whnf
 intro (_:_≤9223372036854775807)
 have hl:(l.map AV.str).length=l.length:=List.length_map _
 conv=>whnf
 refine LoopK.inv QQ (fun j:Nat=>⟨[(0,.p (QD l)),(6,.p (.int .i64 (l.map AV.str).length)),(7,.p (.int .i64 j))],[]⟩) (fun j=>j≤l.length∧(l.take j).Nodup) (fun j=>l.length-j) 0 (Le.of_eq rfl) ⟨Nat.zero_le _,by simp⟩ ?_
 rintro j ⟨h2,h3⟩
 rcases Nat.lt_or_ge j l.length with hj|hj
 ·conv=>whnf
  repeat' (refine Br.dec (fun _=>?_) (fun _=>?_)<;>first|(exfalso;omega)|conv=>whnf)
  refine LoopK.inv QQ (fun k:Nat=>⟨[(0,.p (QD l)),(3,.p (.int .i64 j)),(4,.p (.int .i64 k)),(6,.p (.int .i64 (l.map AV.str).length)),(7,.p (.int .i64 j))],[]⟩) (fun k=>k≤j ∧ ∀ s∈l.take k,s≠l[j]) (fun k=>j-k) 0 (Le.of_eq rfl) ⟨Nat.zero_le _,fun s hs=>by rw [List.take_zero] at hs;cases hs⟩ ?_
  rintro k ⟨h4,h5⟩
  rcases Nat.lt_or_ge k j with hk|hk
  ·conv=>whnf
   repeat' (first|((first|refine DrawK.auto QQ mixed (by kernel_rfl) ?_|refine IdxK.map (by omega) (fun _=>rfl) ?_|refine Wr.i64 (by omega) (by omega) ?_);conv=>whnf)|(refine Br.dec (fun _=>?_) (fun _=>?_)<;>first|(exfalso;omega)|conv=>whnf)|(refine Br.b (fun _=>?_) (fun _=>?_)<;>conv=>whnf))
   ·refine RetK.tt (x7o fun hn => ?_)
    have he:l[j]=l[k]:=eq_of_beq (by assumption)
    have:=(List.getElem_inj hn).1 he
    omega
   ·have he:(l[j]==l[k])=false:=by assumption
    refine ⟨k+1,⟨by omega,fun s hs => ?_⟩,by omega,Le.of_eq rfl⟩
    rcases (QA (by omega)).1 hs with h6|rfl
    ·exact h5 s h6
    ·exact fun e=>by rw [e] at he;simp at he
  ·obtain rfl:k=j:=by omega
   conv=>whnf
   repeat' (first|(refine Wr.i64 (by omega) (by omega) ?_;conv=>whnf)|(refine Br.dec (fun _=>?_) (fun _=>?_)<;>first|(exfalso;omega)|conv=>whnf))
   refine ⟨k+1,⟨by omega,?_⟩,by omega,Le.of_eq rfl⟩
   rw [List.take_succ_eq_append_getElem hj,List.nodup_append]
   exact ⟨h3,by simp,fun a ha b hb e=>h5 a ha (by rw [e];exact List.mem_singleton.1 hb)⟩
 ·rw [List.take_of_length_le hj] at h3
  conv=>whnf
  repeat' (refine Br.dec (fun _=>?_) (fun _=>?_)<;>first|(exfalso;omega)|conv=>whnf)
  exact RetK.ff (ZL.2 h3)
theorem MT (f:Pr) (h1:f.params.length≤1000000):SpecP Tryz.prog 269 [.agg f.cells] (fun r=>r=QD (f.params.map Param.name)):=by
 refine SpecP.body BY QQ Tryz.func269 rfl Tryz.call269 (by show 1≤_;decide) ?_
 conv=>whnf
 intro (_:_≤9223372036854775807)
 have hl:(f.params.map fun a=>AV.agg a.cells).length=f.params.length:=List.length_map _
 conv=>whnf
 refine LoopK.inv QQ (fun j:Nat=>⟨[(3,.hd 0 0 j),(7,.p (.sl (f.params.map fun a=>AV.agg a.cells))),(8,.p (.int .i64 (f.params.map fun a=>AV.agg a.cells).length)),(9,.p (.int .i64 j))],[(0,.own 9 1 (((f.params.map Param.name).take j).map .str))]⟩) (fun j=>j≤f.params.length) (fun j=>f.params.length-j) 0
  (Le.mk [(0,.own 9 1 [])] (by simp [Chunk.new0];rfl) (by simp) (by simp) (.cons (.nil List.mem_cons_self) (.cons (.refl _) (.cons (.refl _) (.cons (.refl _) .nil)))) (.new List.mem_cons_self .nil)) (Nat.zero_le _) ?_
 intro j h3
 rcases Nat.lt_or_ge j f.params.length with hj|hj
 ·have hr:((f.params.map Param.name).take (j+1))=(f.params.map Param.name).take j++[f.params[j].name]:=by
   rw [List.take_succ_eq_append_getElem (by simpa using hj),List.getElem_map]
  have hlt:((f.params.map Param.name).take j).length=j:=by simp;omega
  generalize (f.params.map Param.name).take j=acc at *
  conv=>whnf
  repeat' (first|((first|refine And.intro rfl ?_|(refine And.intro ⟨by decide,by decide⟩ ?_)|refine BsK.pure (fun x hx=>by rcases List.mem_singleton.1 hx with rfl;rfl) rfl ?_|refine IdxK.map (by omega) (fun _=>rfl) ?_|refine Wr.i64 (by omega) (by omega) ?_|refine AppK.str1 (by simp;omega) (by simp;omega) ?_);conv=>whnf)|(refine Br.dec (fun _=>?_) (fun _=>?_)<;>first|(exfalso;omega)|conv=>whnf))
  exact ⟨j+1,by omega,by omega,Le.of_eq (by rw [hr];simp;rfl)⟩
 ·rw [List.take_of_length_le (by simpa using hj)]
  conv=>whnf
  repeat' (refine Br.dec (fun _=>?_) (fun _=>?_)<;>first|(exfalso;omega)|conv=>whnf)
  exact ⟨_,.hd rfl (by simp;omega),rfl⟩
theorem q1a (p:Pg) (f:Pr) (name:Str):SpecP Tryz.prog 270 [.agg p.cells,.agg f.cells,.str name] (fun r=>r = .int .i64 (HI p f name)):=by
 refine SpecP.body MW QQ Tryz.func270 rfl Tryz.call270 (by show 3≤_;decide) ?_
 conv=>whnf
 repeat' (intro (_:_≤9223372036854775807);conv=>whnf)
 have hl:(f.params.map fun a=>AV.agg a.cells).length=f.params.length:=List.length_map _
 refine LoopK.inv QQ (fun j:Nat=>⟨[(2,.p (.str name)),(3,.p (.ip p.cells)),(4,.p (.ip f.cells)),(10,.p (.sl (f.params.map fun a => .agg a.cells))),(11,.p (.int .i64 (f.params.map fun a=>AV.agg a.cells).length)),(12,.p (.int .i64 j))],[]⟩) (fun j=>j≤f.params.length∧(f.params.drop j).find? (fun a=>a.name==name)=f.params.find? fun a=>a.name==name) (fun j=>f.params.length-j) 0 (Le.of_eq rfl) ⟨Nat.zero_le _,rfl⟩ ?_
 rintro j ⟨h2,h3⟩
 rcases Nat.lt_or_ge j f.params.length with hj|hj
 ·conv=>whnf
  repeat' (first|((first|refine And.intro rfl ?_|refine IdxK.map (by omega) (fun _=>rfl) ?_|refine Wr.i64 (by omega) (by omega) ?_);conv=>whnf)|(refine Br.dec (fun _=>?_) (fun _=>?_)<;>first|(exfalso;omega)|conv=>whnf)|(refine Br.b (fun _=>?_) (fun _=>?_)<;>conv=>whnf))
  all_goals first
   | (exfalso;simp_all;done)
   | (have e:=JO (p:=fun a:Param=>a.name==name) hj (by assumption)
      rw [h3] at e
      exact RetK.int (by unfold HI;rw [e];simp [*]))
   | (refine ⟨j+1,⟨by omega,by rw [← h3,DT (p:=fun a:Param=>a.name==name) hj (by assumption)]⟩,by omega,Le.of_eq rfl⟩)
 ·have e:f.params.find? (fun a=>a.name==name)=none:=by rw [← h3,KW (by omega)]
  conv=>whnf
  repeat' (first|(refine CallK.pure (QC _ _) (by repeat' (first|exact ArgP.nil|refine ArgP.cons ?_ ?_|exact Sub.refl _|exact Sub.tt rfl|exact Sub.ff rfl)) ?_;rintro _ rfl;conv=>whnf)|(refine Br.dec (fun _=>?_) (fun _=>?_)<;>first|(exfalso;omega)|conv=>whnf)|(refine Br.b (fun _=>?_) (fun _=>?_)<;>conv=>whnf))
  all_goals
   simp only [q4u] at *
   exact RetK.int (by unfold HI;rw [e];simp [*])
theorem GH (t:S) (ha:t.args.length≤20000):SpecP Tryz.prog 60 [.agg t.cells] (fun r=>r=QD (ZT t)):=by
 refine SpecP.body NN QQ Tryz.func60 rfl Tryz.call60 (by show 1≤_;decide) ?_
 conv=>whnf
 repeat' (first|((first|intro (_:_≤9223372036854775807)|(refine CallK.pure (KQ _) (by repeat' (first|exact ArgP.nil|refine ArgP.cons ?_ ?_|exact Sub.refl _|exact Sub.tt rfl|exact Sub.ff rfl)) ?_;rintro _ rfl)|refine And.intro rfl ?_|(refine And.intro ⟨by decide,by decide⟩ ?_)|refine BsK.pure (fun x hx=>by rcases List.mem_singleton.1 hx with rfl;rfl) rfl ?_|refine AppK.strs _ (by simp) (by have:=YL t.x;simp;omega) ?_|refine AppK.str1 (by simp) (by simp) ?_);conv=>whnf)|(refine Br.dec2 (fun _=>?_) (fun _=>?_)<;>first|(exfalso;omega)|conv=>whnf)|(refine Br.n (fun _=>?_) (fun _=>?_)<;>conv=>whnf))
 all_goals simp only [show (ByteArray.mk #[]).data.toList=[] from rfl] at *
 all_goals
  have hl:(t.args.map fun a=>AV.agg a.cells).length=t.args.length:=List.length_map _
  refine LoopK.inv QQ (FP t 9) (fun j=>j≤t.args.length) (fun j=>t.args.length-j) 0 (Le.of_eq ?_) (Nat.zero_le _) ?_
  ·first
    | (have e:x3u t 0=WV t.x:=by simp [x3u,FK,show t.kind=10 by assumption]
       rw [FP,e];simp only [Nat.zero_add,List.length_map,List.length_append,List.map_append,List.nil_append];rfl)
    | (have e:x3u t 0=WV t.x:=by simp [x3u,FK,show t.name=[] by simpa using (show (t.name==[])=true by assumption)]
       rw [FP,e];simp only [Nat.zero_add,List.length_map,List.length_append,List.map_append,List.nil_append];rfl)
    | (have e:x3u t 0=[t.name]++WV t.x:=by
        have:(t.name==[])=false:=by assumption
        simp [x3u,FK,show ¬t.kind=10 by assumption,this]
       rw [FP,e];simp only [Nat.zero_add,List.length_map,List.length_append,List.map_append,List.nil_append];rfl)
  intro j h2
  have hacc:=z2k t h2 ha
  conv=>whnf
  repeat' (first|((first|(refine CallK.pure (KQ _) (by repeat' (first|exact ArgP.nil|refine ArgP.cons ?_ ?_|exact Sub.refl _|exact Sub.tt rfl|exact Sub.ff rfl)) ?_;rintro _ rfl)|refine And.intro rfl ?_|(refine And.intro ⟨by decide,by decide⟩ ?_)|refine BsK.pure (fun x hx=>by rcases List.mem_singleton.1 hx with rfl;rfl) rfl ?_|refine IdxK.map (by omega) (fun _=>rfl) ?_|refine Wr.i64 (by omega) (by omega) ?_|refine AppK.strs _ (by simp) (by have:=YL (t.args[j]'(by omega)).x;simp;omega) ?_|refine AppK.str1 (by simp) (by simp;omega) ?_);conv=>whnf)|(refine Br.dec (fun _=>?_) (fun _=>?_)<;>first|(exfalso;omega)|conv=>whnf)|(refine Br.b (fun _=>?_) (fun _=>?_)<;>conv=>whnf))
  all_goals first
   | exact ⟨_,.hd rfl (by simp),by
      have:t.args.take j=t.args:=List.take_of_length_le (by omega)
      rw [ZT,← this];rfl⟩
   | (have hj:j<t.args.length:=by omega
      have hst:=x6l hj
      refine ⟨j+1,by show j+1≤_;omega,by show t.args.length-(j+1)<t.args.length-j;omega,Le.of_eq ?_⟩
      first
       | (have hn:UO t.args[j]=[t.args[j].name]++WV t.args[j].x:=by rw [UO,show t.args[j].ref=true by assumption];rfl
          rw [FP,hst,hn]
          simp only [List.length_append,List.map_append,List.length_map,← List.append_assoc,← Nat.add_assoc]
          rfl)
       | (have hn:UO t.args[j]=WV t.args[j].x:=by rw [UO,show t.args[j].ref=false by assumption];rfl
          rw [FP,hst,hn]
          simp only [List.length_append,List.map_append,List.length_map]
          rfl))
theorem ZS (p:Pg) (n:Str):SpecP Tryz.prog 267 [.agg p.cells,.str n] (fun r=>r = .tup [.agg (VE p n).1.cells,.bool (VE p n).2]):=by
 refine SpecP.body PS QQ Tryz.func267 rfl Tryz.call267 (by show 2≤_;decide) ?_
 conv=>whnf
 have hpl:(p.procs.map fun f=>AV.agg f.cells).length=p.procs.length:=List.length_map _
 repeat' (intro (_:_≤9223372036854775807);conv=>whnf)
 refine LoopK.inv QQ (fun j:Nat=>⟨[(1,.p (.str n)),(4,.ptr 1 0),(9,.p (.sl (p.procs.map fun f => .agg f.cells))),(10,.p (.int .i64 (p.procs.map fun f=>AV.agg f.cells).length)),(11,.p (.int .i64 j))],[(1,.obj 67 [.p (.str []),.p .nils,.p .nils,.p .nils,.p .nils])]⟩) (fun j=>j≤p.procs.length∧(p.procs.drop j).find? (fun f=>f.name==n)=p.procs.find? fun f=>f.name==n) (fun j=>p.procs.length-j) 0 (Le.of_eq rfl) ⟨Nat.zero_le _,rfl⟩ ?_
 rintro j ⟨h2,h3⟩
 rcases Nat.lt_or_ge j p.procs.length with hj|hj
 ·rw [QG hj,List.find?_cons] at h3
  conv=>whnf
  repeat' (first|((first|refine And.intro rfl ?_|refine IdxK.map (by omega) (fun _=>rfl) ?_|refine Wr.i64 (by omega) (by omega) ?_);conv=>whnf)|(refine Br.dec (fun _=>?_) (fun _=>?_)<;>first|(exfalso;omega)|conv=>whnf)|(refine Br.b (fun _=>?_) (fun _=>?_)<;>conv=>whnf))
  ·have hn:(p.procs[j].name==n)=true:=by assumption
   rw [hn] at h3
   exact ⟨_,.p (Sub.tup (SubL.cons (Sub.refl _) (SubL.cons (Sub.tt rfl) SubL.nil))),by unfold VE;rw [← h3];first|done|rfl⟩
  ·have hn:(p.procs[j].name==n)=false:=by assumption
   rw [hn] at h3
   exact ⟨j+1,⟨hj,h3⟩,by omega,Le.of_eq rfl⟩
 ·rw [List.drop_eq_nil_of_le hj,List.find?_nil] at h3
  conv=>whnf
  repeat' (first|(refine And.intro rfl ?_;conv=>whnf)|(refine Br.dec (fun _=>?_) (fun _=>?_)<;>first|(exfalso;omega)|conv=>whnf))
  exact ⟨_,.p (Sub.tup (SubL.cons x9t (SubL.cons (Sub.ff rfl) SubL.nil))),by unfold VE;rw [← h3];first|done|rfl⟩
theorem w1m (p:Pg) (s:S):UM p s=(decide (s.kind=4)&&((VE p s.proc).2&&q8c (VE p s.proc).1.params s.args)):=by
 unfold UM VE
 cases p.procs.find? (fun f=>f.name==s.proc)<;>rfl
theorem UH (p:Pg) (s:S):SpecP Tryz.prog 271 [.agg p.cells,.agg s.cells] (fun r=>r = .bool (UM p s)):=by
 refine SpecP.body FY QQ Tryz.func271 rfl Tryz.call271 (by show 2≤_;decide) ?_
 conv=>whnf
 have hN:=ZS p s.proc
 have hF:=w1m p s
 rw [hF]
 generalize (VE p s.proc).2=ok at *
 generalize (VE p s.proc).1=q at *
 have hal:(s.args.map fun a=>AV.agg a.cells).length=s.args.length:=List.length_map _
 have hql:(q.params.map fun a=>AV.agg a.cells).length=q.params.length:=List.length_map _
 repeat' (first|((first|intro (_:_≤9223372036854775807)|refine And.intro rfl ?_|(refine CallK.pure hN (.cons (Sub.refl _) (.cons (Sub.refl _) .nil)) ?_;rintro _ rfl));conv=>whnf)|(refine Br.dec2 (fun _=>?_) (fun _=>?_)<;>first|(exfalso;omega)|conv=>whnf)|(refine Br.n (fun _=>?_) (fun _=>?_)<;>conv=>whnf))
 all_goals first
  | (refine RetK.ff ?_;simp_all;done)
  | (refine RetK.ff ?_
     have:q8c q.params s.args=false:=by
      unfold q8c
      rw [decide_eq_false_iff_not]
      intro he
      have:=congrArg List.length he
      simp at this
      omega
     rw [this]
     simp)
  | skip
 have hk:s.kind=4:=by omega
 have hlen:s.args.length=q.params.length:=by omega
 have hok:ok=true:=by assumption
 rw [hok,decide_eq_true hk,Bool.true_and,Bool.true_and]
 refine LoopK.inv QQ (fun j:Nat=>⟨[(3,.p (.ip s.cells)),(5,.p (.ip q.cells)),(33,.p (.int .i64 (s.args.map fun a=>AV.agg a.cells).length)),(34,.p (.int .i64 j))],[]⟩) (fun j=>j≤s.args.length ∧ ∀ k (hk:k<j) (h1:k<s.args.length) (h2:k<q.params.length),s.args[k].ref=q.params[k].ref) (fun j=>s.args.length-j) 0 (Le.of_eq rfl) ⟨Nat.zero_le _,fun k hk=>absurd hk (Nat.not_lt_zero _)⟩ ?_
 rintro j ⟨h2,h3⟩
 rcases Nat.lt_or_ge j s.args.length with hj|hj
 ·have hjq:j<q.params.length:=by omega
  conv=>whnf
  repeat' (first|((first|refine DrawK.auto QQ mixed (by kernel_rfl) ?_|refine IdxK.map (by omega) (fun _=>rfl) ?_|refine Wr.i64 (by omega) (by omega) ?_|refine ValO.boolNeq QQ rfl rfl rfl rfl rfl ?_);conv=>whnf)|(refine Br.dec (fun _=>?_) (fun _=>?_)<;>first|(exfalso;omega)|conv=>whnf)|(refine Br.dec2 (fun _=>?_) (fun _=>?_)<;>first|(exfalso;omega)|conv=>whnf))
  all_goals first
   | (refine RetK.ff ?_
      unfold q8c
      rw [decide_eq_false_iff_not]
      intro he
      have h4:=congrArg (fun l=>l[j]?) he
      simp only [List.getElem?_map,List.getElem?_eq_getElem hj,List.getElem?_eq_getElem hjq,Option.map_some] at h4
      have h5:=Option.some.inj h4
      simp_all
      done)
   | (refine ⟨j+1,⟨by omega,fun k hk h1 h2 => ?_⟩,by omega,Le.of_eq rfl⟩
      rcases Nat.lt_or_ge k j with h5|h5
      ·exact h3 k h5 h1 h2
      ·obtain rfl:k=j:=by omega
       simp_all)
 ·conv=>whnf
  repeat' (refine Br.dec (fun _=>?_) (fun _=>?_)<;>first|(exfalso;omega)|conv=>whnf)
  refine RetK.tt ?_
  unfold q8c
  rw [decide_eq_true_eq]
  refine List.ext_getElem (by simp;omega) fun k h4 h5 => ?_
  simp only [List.length_map] at h4 h5
  rw [List.getElem_map,List.getElem_map,h3 k (by omega) h5 h4]
theorem MA (f:Pr) (hl : ∀ x∈ZR f,x.s.labels.length≤20000) (hf:f.fin.length≤20000):SpecP Tryz.prog 272 [.agg f.cells] (fun r=>r=QD ((ZR f).flatMap (fun x=>x.s.labels)++f.fin)):=by
 refine SpecP.body BH QQ Tryz.func272 rfl Tryz.call272 (by show 1≤_;decide) ?_
 conv=>whnf
 have hF:=QE f
 have hrl:=JH f
 generalize ZR f=L at *
 have hLl:=ZI L
 repeat' ((first|intro (_:_≤9223372036854775807)|(refine CallK.pure hF (.cons (Sub.refl _) .nil) ?_;rintro _ rfl));conv=>whnf)
 refine LoopK.inv QQ (fun x:Nat×List Str=>⟨[(1,.p (.ip f.cells)),(3,.hd 0 0 x.2.length),(7,.p (YN L)),(8,.p (.int .i64 (L.map fun i=>AV.agg i.cells).length)),(9,.p (.int .i64 x.1))],[(0,.own 9 1 (x.2.map .str))]⟩) (fun x=>x.1≤L.length∧x.2=(L.take x.1).flatMap (fun x=>x.s.labels)∧x.2.length≤20000*x.1) (fun x=>L.length-x.1) (0,[])
  (Le.mk [(0,.own 9 1 [])] (by simp [Chunk.new0];rfl) (by simp) (by simp) (.cons (.refl _) (.cons (.nil List.mem_cons_self) (.cons (.refl _) (.cons (.refl _) (.cons (.refl _) .nil))))) (.new List.mem_cons_self .nil)) ⟨Nat.zero_le _,by simp,by simp⟩ ?_
 rintro ⟨j,acc⟩ ⟨h2,h3,h4⟩
 simp only at h2 h3 h4 ⊢
 rcases Nat.lt_or_ge j L.length with hj|hj
 ·have h5:=hl _ (List.getElem_mem hj)
  have h6:acc++L[j].s.labels=(L.take (j+1)).flatMap (fun x=>x.s.labels):=by rw [List.take_succ_eq_append_getElem hj,List.flatMap_append,← h3];simp
  conv=>whnf
  repeat' (first|((first|refine And.intro rfl ?_|(refine And.intro ⟨by decide,by decide⟩ ?_)|refine IdxK.map (by omega) (fun _=>rfl) ?_|refine Wr.i64 (by omega) (by omega) ?_|refine AppK.strs _ (by simp) (by simp;omega) ?_);conv=>whnf)|(refine Br.dec (fun _=>?_) (fun _=>?_)<;>first|(exfalso;omega)|conv=>whnf))
  exact ⟨(j+1,acc++L[j].s.labels),⟨by simp only;omega,h6,by simp;omega⟩,by simp only;omega,Le.of_eq (by simp;rfl)⟩
 ·rw [List.take_of_length_le hj] at h3
  conv=>whnf
  repeat' (first|((first|(refine And.intro ⟨by decide,by decide⟩ ?_)|refine AppK.strs _ (by simp) (by simp;omega) ?_);conv=>whnf)|(refine Br.dec (fun _=>?_) (fun _=>?_)<;>first|(exfalso;omega)|conv=>whnf))
  exact ⟨_,.hd rfl (by simp),by rw [← h3];simp [QD]⟩
def NY (l:List RI) (fin:List Str) (label:Str):Int×Bool:=match l.find? fun x=>inS x.s.labels label with
 | some x=>(x.s.id,true)
 | none=>if inS fin label=true then (-1,true) else (0,false)
theorem LR (l:List RI) (fin:List Str) (label:Str):SpecP Tryz.prog 206 [YN l,QD fin,.str label] (fun r=>r = .tup [.int .i64 (NY l fin label).1,.bool (NY l fin label).2]):=by
 refine SpecP.body PV QQ Tryz.func206 rfl Tryz.call206 (by show 3≤_;decide) ?_
 conv=>whnf
 intro (_:_≤9223372036854775807)
 have hLl:=ZI l
 conv=>whnf
 refine LoopK.inv QQ (fun j:Nat=>⟨[(1,.p (QD fin)),(2,.p (.str label)),(10,.p (YN l)),(11,.p (.int .i64 (l.map fun i=>AV.agg i.cells).length)),(12,.p (.int .i64 j))],[]⟩) (fun j=>j≤l.length∧(l.drop j).find? (fun x=>inS x.s.labels label)=l.find? fun x=>inS x.s.labels label) (fun j=>l.length-j) 0 (Le.of_eq rfl) ⟨Nat.zero_le _,rfl⟩ ?_
 rintro j ⟨h2,h3⟩
 rcases Nat.lt_or_ge j l.length with hj|hj
 ·conv=>whnf
  repeat' (first|((first|(refine CallK.pure (QC _ _) (by repeat' (first|exact ArgP.nil|refine ArgP.cons ?_ ?_|exact Sub.refl _|exact Sub.tt rfl|exact Sub.ff rfl)) ?_;rintro _ rfl)|refine And.intro rfl ?_|refine IdxK.map (by omega) (fun _=>rfl) ?_|refine Wr.i64 (by omega) (by omega) ?_);conv=>whnf)|(refine Br.dec (fun _=>?_) (fun _=>?_)<;>first|(exfalso;omega)|conv=>whnf)|(refine Br.b (fun _=>?_) (fun _=>?_)<;>conv=>whnf))
  ·have e:=JO (p:=fun x:RI=>inS x.s.labels label) hj (by assumption)
   rw [h3] at e
   exact RetK.tup2 (by unfold NY;rw [e]) (Sub.tt (by unfold NY;rw [e]))
  ·exact ⟨j+1,⟨by omega,by rw [← h3,DT (p:=fun x:RI=>inS x.s.labels label) hj (by assumption)]⟩,by omega,Le.of_eq rfl⟩
 ·have e:l.find? (fun x=>inS x.s.labels label)=none:=by rw [← h3,KW hj]
  conv=>whnf
  repeat' (first|(refine CallK.pure (QC _ _) (by repeat' (first|exact ArgP.nil|refine ArgP.cons ?_ ?_|exact Sub.refl _|exact Sub.tt rfl|exact Sub.ff rfl)) ?_;rintro _ rfl;conv=>whnf)|(refine Br.dec (fun _=>?_) (fun _=>?_)<;>first|(exfalso;omega)|conv=>whnf)|(refine Br.b (fun _=>?_) (fun _=>?_)<;>conv=>whnf))
  ·exact RetK.tup2 (by unfold NY;rw [e];simp [*]) (Sub.tt (by unfold NY;rw [e];simp [*]))
  ·exact RetK.tup2 (by unfold NY;rw [e];simp [*]) (Sub.ff (by unfold NY;rw [e];simp [*]))
theorem JK (l:List RI) (id:Int):SpecP Tryz.prog 207 [YN l,.int .i64 id] (fun r=>r = .tup [.int .i64 (x7s l.reverse id).1,.bool (x7s l.reverse id).2]):=by
 refine SpecP.body DE QQ Tryz.func207 rfl Tryz.call207 (by show 2≤_;decide) ?_
 conv=>whnf
 intro (_:_≤9223372036854775807)
 have hLl:=ZI l
 conv=>whnf
 repeat' (refine Wr.i64 (by omega) (by omega) ?_;conv=>whnf)
 refine LoopK.inv QQ (fun n:Nat=>⟨[(0,.p (YN l)),(1,.p (.int .i64 id)),(6,.p (.int .i64 ((n:Int)-1)))],[]⟩) (fun n=>n≤l.length∧x7s (l.take n).reverse id=x7s l.reverse id) (fun n=>n) l.length (Le.of_eq (by rw [hLl])) ⟨Nat.le_refl _,by rw [List.take_length]⟩ ?_
 rintro n ⟨h2,h3⟩
 cases n with
 | zero =>
   rw [← h3]
   conv=>whnf
   repeat' (refine Br.dec (fun _=>?_) (fun _=>?_)<;>first|(exfalso;omega)|conv=>whnf)
   exact RetK.tup2 rfl (Sub.ff rfl)
 | succ n =>
   have hn:n<l.length:=by omega
   have hst:=x5b hn id
   have e1:((n+1:Nat):Int)-1=(n:Nat):=by omega
   rw [e1]
   conv=>whnf
   repeat' (first|((first|refine IdxK.map (by omega) (fun _=>rfl) ?_|refine Wr.eq (m:=(n:Int)-1) rfl (by omega) (by omega) ?_);conv=>whnf)|(refine Br.dec (fun _=>?_) (fun _=>?_)<;>first|(exfalso;omega)|conv=>whnf)|(refine Br.dec2 (fun _=>?_) (fun _=>?_)<;>first|(exfalso;omega)|conv=>whnf))
   rotate_left 1
   ·rw [if_neg (by assumption)] at hst
    exact ⟨n,⟨by omega,by rw [← hst];exact h3⟩,by omega,Le.of_eq rfl⟩
   rw [if_pos (by omega)] at hst
   refine LoopK.inv QQ (fun x:Nat×Int=>⟨[(0,.p (YN l)),(1,.p (.int .i64 id)),(6,.p (.int .i64 n)),(7,.p (.int .i64 x.2)),(8,.p (.int .i64 ((x.1:Int)-1)))],[]⟩) (fun x=>x.1≤n∧KM (l.take x.1).reverse x.2=KM (l.take n).reverse l[n].inn) (fun x=>x.1) (n,l[n].inn) (Le.of_eq rfl) ⟨Nat.le_refl _,rfl⟩ ?_
   rintro ⟨m,i⟩ ⟨h4,h5⟩
   simp only at h4 h5 ⊢
   cases m with
   | zero =>
     have e:KM (l.take 0).reverse i=(0,false):=rfl
     rw [e] at h5
     rw [← h5,if_neg (by decide)] at hst
     conv=>whnf
     repeat' (first|(refine Wr.eq (m:=(n:Int)-1) rfl (by omega) (by omega) ?_;conv=>whnf)|(refine Br.dec (fun _=>?_) (fun _=>?_)<;>first|(exfalso;omega)|conv=>whnf))
     exact ⟨n,⟨by omega,by rw [← hst];exact h3⟩,by omega,Le.of_eq rfl⟩
   | succ m =>
     have hm:m<l.length:=by omega
     have hs2:=z4c hm i
     have e2:((m+1:Nat):Int)-1=(m:Nat):=by omega
     rw [e2]
     conv=>whnf
     repeat' (first|((first|refine IdxK.map (by omega) (fun _=>rfl) ?_|refine Wr.eq (m:=(n:Int)-1) rfl (by omega) (by omega) ?_|refine Wr.eq (m:=(m:Int)-1) rfl (by omega) (by omega) ?_);conv=>whnf)|(refine Br.dec (fun _=>?_) (fun _=>?_)<;>first|(exfalso;omega)|conv=>whnf)|(refine Br.dec2 (fun _=>?_) (fun _=>?_)<;>first|(exfalso;omega)|conv=>whnf))
     all_goals first
      | (rw [if_pos (by omega)] at hs2
         rw [hs2] at h5
         rw [← h5,if_neg (by decide)] at hst
         exact ⟨n,⟨by omega,by rw [← hst];exact h3⟩,by omega,Le.of_eq rfl⟩)
      | (rw [if_neg (by assumption),if_neg (by assumption)] at hs2
         exact ⟨(m,i),⟨by simp only;omega,by rw [← hs2];exact h5⟩,by simp only;omega,Le.of_eq rfl⟩)
      | (rw [if_neg (by assumption),if_pos (by omega),if_pos (by assumption)] at hs2
         rw [hs2] at h5
         rw [← h5,if_pos rfl] at hst
         rw [← h3,hst]
         exact RetK.tup2 rfl (Sub.tt rfl))
      | (rw [if_neg (by assumption),if_pos (by omega),if_neg (by assumption)] at hs2
         exact ⟨(m,l[m].inn),⟨by simp only;omega,by rw [← hs2];exact h5⟩,by simp only;omega,Le.of_eq rfl⟩)
      | trace_state
def pureL:LV→LV
 | .p a => .p a
 | _ => .p .any
def z5k:List (Nat×LV)→List (Nat×LV)
 | []=>[]
 | (j,l)::r=>(j,pureL l)::z5k r
theorem x6c : ∀ (sl:List (Nat×LV)) (i:Nat),getS (z5k sl) i=pureL (getS sl i)
 | [],i=>rfl
 | (j,l)::r,i=>by
   rw [z5k,getS,getS]
   cases j==i with
   | true=>rfl
   | false=>exact x6c r i
theorem CallK.give {P:Program} {N:Nat} {g:FuncId} {args:List LV} {dst:Option Nat} {s:St} {K:St→Prop} {avs:List AV} {R:AV→Prop} (hs:SpecP P g avs R) (ha:FrzL s.H args avs)
  (h : ∀ c,R c→setD N (z5k s.sl) dst (.p c) fun sl=>K ⟨sl,[]⟩):CallK P N g args dst s K:=by
 refine ⟨fun σ β a w hr vals hn hv=>⟨hs.go vals,?_⟩⟩
 obtain ⟨hlen,hget⟩:=ha.get
 obtain ⟨τ,h5,h6,h7,h8⟩:=q6w hr.heap
 refine (hs.ok τ w vals (hn.trans hlen) (fun j c hj => ?_) h6).mono fun e w' ⟨c,u,σ',he,hR,hrep,hle,hl,hf,hnew⟩ => ?_
 ·obtain ⟨l,h1,h2⟩:=hget j c hj
  exact h8 l _ c (hv j l h1) h2
 ·have hr':Rel N σ' β ⟨z5k s.sl,[]⟩ a w':=⟨hr.size,hr.defers,fun i=>by
   show RepL σ' β (getS (z5k s.sl) i) _
   rw [x6c]
   have:=hr.slots i
   generalize getS s.sl i=l at this ⊢
   cases l with
   | p x=>exact this.mono (Mem.le_trans h5 hle)
   | _=>exact .p (.any _),⟨hl,fun k c h=>(by cases h),List.nodup_nil,fun k h=>(by cases h),fun k h=>(by cases h)⟩⟩
  obtain ⟨sl,hK,hr''⟩:=hr'.setD (.p hrep) (h c hR)
  refine ⟨u,σ',β,_,he,hK,hr'',Mem.le_trans h5 hle,⟨hf.os,hf.tape,hf.output,hf.drawn,hf.size,fun b hb _=>hf.block b hb id⟩,fun b h0 h1 => ?_,fun b ⟨j,hj,_⟩=>(by cases hj),fun _ _ _=>rfl⟩
  by_cases h2:τ b=none
  ·exact .inr (hnew b h2 h1)
  ·rcases h7 b h2 with h3|h3
   ·exact absurd h0 h3
   ·exact .inl h3
end Go.Ab
