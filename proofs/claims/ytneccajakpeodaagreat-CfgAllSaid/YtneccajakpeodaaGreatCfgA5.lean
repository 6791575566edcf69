/- Contracts used at calls. Conditions: none. -/
import Derived.Orders
import Derived.Test.YtneccajakpeodaaGreatCfgA4
set_option linter.unusedSimpArgs false
set_option linter.unusedVariables false
set_option maxRecDepth 100000
set_option maxHeartbeats 16000000
namespace Go.Ab
inductive FrzL (H:Heap):List LV→List AV→Prop
 | nil:FrzL H [] []
 | cons {l:LV} {c:AV} {ls:List LV} {cs:List AV} (h:Frz H l c) (hs:FrzL H ls cs):FrzL H (l::ls) (c::cs)
theorem FrzL.get {H:Heap} : ∀ {ls:List LV} {cs:List AV},FrzL H ls cs→ls.length=cs.length ∧ ∀ (j:Nat) (c:AV),cs[j]? = some c → ∃ l,ls[j]? = some l∧Frz H l c
 | _,_,.nil=>⟨rfl,by simp⟩
 | _,_,.cons h hs=>⟨by simp [hs.get.1],fun j c hj=>by
    cases j with
    | zero=>simp at hj;subst hj;exact ⟨_,rfl,h⟩
    | succ j=>exact hs.get.2 j c (by simpa using hj)⟩
inductive ArgP:List LV→List AV→Prop
 | nil:ArgP [] []
 | cons {a c:AV} {ls:List LV} {cs:List AV} (h:Sub a c) (hs:ArgP ls cs):ArgP (.p a::ls) (c::cs)
theorem ArgP.get : ∀ {ls:List LV} {cs:List AV},ArgP ls cs→ls.length=cs.length ∧ ∀ (j:Nat) (c:AV),cs[j]? = some c → ∃ a,ls[j]? = some (.p a)∧Sub a c
 | _,_,.nil=>⟨rfl,by simp⟩
 | _,_,.cons h hs=>⟨by simp [hs.get.1],fun j c hj=>by
    cases j with
    | zero=>simp at hj;subst hj;exact ⟨_,rfl,h⟩
    | succ j=>exact hs.get.2 j c (by simpa using hj)⟩
def AV.flat:AV→Bool
 | .any | .und | .tt | .ff | .bool _ | .int _ _ | .str _ | .nilp | .nilf | .nils | .raw _=>true
 | .agg cs=>flatAll cs
 | .tup cs=>flatAll cs
 | _=>false
where flatAll:List AV→Bool
 | []=>true
 | c::r=>AV.flat c&&flatAll r
theorem PM : ∀ {cs:List AV},AV.flat.flatAll cs=true → ∀ (j:Nat) (c:AV),cs[j]? = some c→c.flat=true
 | [],_,_,_,h=>by simp at h
 | x::r,h,0,c,hj=>by
   simp only [AV.flat.flatAll,Bool.and_eq_true] at h
   simp at hj;subst hj;exact h.1
 | x::r,h,j+1,c,hj=>by
   simp only [AV.flat.flatAll,Bool.and_eq_true] at h
   exact PM h.2 j c (by simpa using hj)
theorem Rep.flat {σ τ:Mem} {c:AV} {v:Value} (h:Rep σ c v) (hf:c.flat=true):Rep τ c v:=by
 induction h with
 | any v=>exact .any v
 | und=>exact .und
 | tt=>exact .tt
 | ff=>exact .ff
 | bool b=>exact .bool b
 | int k n=>exact .int k n
 | str s h=>exact .str s h
 | nilp=>exact .nilp
 | nilf=>exact .nilf
 | nils=>exact .nils
 | raw v=>exact .raw v
 | ip=>simp [AV.flat] at hf
 | nilsl=>exact .nilsl
 | slz b=>exact .slz b
 | sl=>simp [AV.flat] at hf
 | agg cs vs u hn hc _ ih=>exact .agg cs vs u hn hc fun j c hj=>ih j c hj (PM (by simpa [AV.flat] using hf) j c hj)
 | tup cs vs u hn hc _ ih=>exact .tup cs vs u hn hc fun j c hj=>ih j c hj (PM (by simpa [AV.flat] using hf) j c hj)
 | fn=>simp [AV.flat] at hf
theorem HRel.kept {σ σ':Mem} {β:Lab} {H:Heap} {w w':World} (h:HRel σ β H w) (hle:σ.le σ') (hl:σ'.lies w') (hf:Frm (fun _=>False) w w') (hn : ∀ b,σ b=none→σ' b≠none→w.heap.size≤b):HRel σ' β H w':=by
 refine ⟨hl,fun k c hc=>(h.chunks k c hc).mono hle fun i hi b hb=>hf.block _ (h.apart k (List.mem_map.2 ⟨_,hc,rfl⟩) i hi b hb).2 id,h.nodup,fun k hk i hi b hb => ?_,h.inj⟩
 have:=h.apart k hk i hi b hb
 refine ⟨?_,Nat.lt_of_lt_of_le this.2 hf.size⟩
 cases hs:σ' b with
 | none=>rfl
 | some c =>
   have:=hn _ this.1 (by simp [hs])
   omega
section
variable {P:Program} {N:Nat} {g:FuncId} {args:List LV} {dst:Option Nat} {s:St} {K:St→Prop} {avs:List AV} {R:AV→Prop}
theorem CallK.pure (hs:SpecP P g avs R) (ha:ArgP args avs) (h : ∀ c,R c→setD N s.sl dst (.p c) fun sl=>K ⟨sl,s.H⟩):CallK P N g args dst s K:=by
 refine ⟨fun σ β a w hr vals hn hv=>⟨hs.go vals,?_⟩⟩
 obtain ⟨hlen,hget⟩:=ha.get
 refine (hs.ok σ w vals (hn.trans hlen) (fun j c hj => ?_) hr.heap.mem).mono fun e w' ⟨c,u,σ',he,hR,hrep,hle,hl,hf,hnew⟩ => ?_
 ·obtain ⟨x,h1,h2⟩:=hget j c hj
  have:=hv j _ h1
  cases this with
  | p h=>exact h2 _ _ h
 ·have hr':Rel N σ' β s a w':=⟨hr.size,hr.defers,fun i=>(hr.slots i).mono hle,hr.heap.kept hle hl hf hnew⟩
  obtain ⟨sl,hK,hr''⟩:=hr'.setD (.p hrep) (h c hR)
  exact ⟨u,σ',β,_,he,hK,hr'',hle,⟨hf.os,hf.tape,hf.output,hf.drawn,hf.size,fun b hb _=>hf.block b hb id⟩,fun b h0 h1 => .inr (hnew b h0 h1),fun b hb => .inl hb,fun _ _ _=>rfl⟩
theorem CallK.borrow (hs:SpecP P g avs R) (ha:FrzL s.H args avs) (hflat : ∀ c,R c→c.flat=true) (h : ∀ c,R c→setD N s.sl dst (.p c) fun sl=>K ⟨sl,s.H⟩):CallK P N g args dst s K:=by
 refine ⟨fun σ β a w hr vals hn hv=>⟨hs.go vals,?_⟩⟩
 obtain ⟨hlen,hget⟩:=ha.get
 obtain ⟨τ,h5,h6,h7,h8⟩:=q4s hr.heap
 refine (hs.ok τ w vals (hn.trans hlen) (fun j c hj => ?_) h6).mono fun e w' ⟨c,u,σ',he,hR,hrep,hle,hl,hf,hnew⟩ => ?_
 ·obtain ⟨l,h1,h2⟩:=hget j c hj
  exact h8 l _ c (hv j l h1) h2
 ·have hlies:σ.lies w':=fun b c hb=>hl b c (hle b c (h5 b c hb))
  have hr':Rel N σ β s a w':=⟨hr.size,hr.defers,hr.slots,hr.heap.kept (Mem.le_refl σ) hlies hf fun b h0 h1=>absurd h0 h1⟩
  obtain ⟨sl,hK,hr''⟩:=hr'.setD (.p (hrep.flat (hflat c hR))) (h c hR)
  exact ⟨u,σ,β,_,he,hK,hr'',Mem.le_refl σ,⟨hf.os,hf.tape,hf.output,hf.drawn,hf.size,fun b hb _=>hf.block b hb id⟩,fun b h0 h1=>absurd h0 h1,fun b hb => .inl hb,fun _ _ _=>rfl⟩
end
section
variable {P:Program} {ops:Array Oper} {Q:Exit→Act→World→Prop} {J J':World→Prop}
def stepJ (P:Program) (ops:Array Oper) (Q:Exit→Act→World→Prop) (J:World→Prop) (i:Nat) (K:Act→World→Prop) (a:Act) (w:World):Prop :=
 match ops[i]? with
 | none=>K a w
 | some o=>if Region.wanted o (yielded ops a.tmps)=true then
    (if isV o.op=true then ∃ u,(execOp a.eval o).run P w = .ok (.value u) w∧K (a.put o.dst u) w else o.wp P a w (fun a' w'=>J w'∧K a' w') Q)
   else K (a.put o.dst undef) w
def anyJ (P:Program) (ops:Array Oper) (Q:Exit→Act→World→Prop) (J:World→Prop):Nat→Array Bool→Act→World→Prop
 | 0,listed,a,w=>Region.ready .any ops listed=[]∧Q .normal a w
 | fuel+1,listed,a,w=>(Region.ready .any ops listed=[]→Q .normal a w) ∧
   ∀ i∈Region.ready .any ops listed,stepJ P ops Q J i (anyJ P ops Q J fuel (listed.setIfInBounds i true)) a w
theorem q6k {i:Nat} {a:Act} {w:World} {K K':Act→World→Prop} (hJ : ∀ w,J w→J' w) (h : ∀ a w,K a w→K' a w) (hh:stepJ P ops Q J i K a w):stepJ P ops Q J' i K' a w:=by
 unfold stepJ at *
 split
 ·rename_i ho;simp only [ho] at hh;exact h _ _ hh
 ·rename_i o ho
  simp only [ho] at hh
  split
  ·rename_i hw
   simp only [hw,if_true] at hh
   split
   ·rename_i hv
    simp only [hv,if_true] at hh
    obtain ⟨u,h1,h2⟩:=hh
    exact ⟨u,h1,h _ _ h2⟩
   ·rename_i hv
    simp only [hv] at hh
    exact Oper.wp_mono (fun a w hk=>⟨hJ _ hk.1,h _ _ hk.2⟩) hh
  ·rename_i hw
   simp only [hw] at hh
   exact h _ _ hh
theorem x1x (hJ : ∀ w,J w→J' w) : ∀ (fuel:Nat) (listed:Array Bool) (a:Act) (w:World),anyJ P ops Q J fuel listed a w→anyJ P ops Q J' fuel listed a w
 | 0,_,_,_,h=>h
 | fuel+1,_,_,_,h=>⟨h.1,fun i hi=>q6k hJ (fun a w=>x1x hJ fuel _ a w) (h.2 i hi)⟩
theorem stepJ.wpOp {i:Nat} {a:Act} {w:World} {K:Act→World→Prop} (h:stepJ P ops Q J i K a w):wpOp P ops Q i K a w:=by
 unfold stepJ at h
 unfold Go.wpOp
 split
 ·rename_i ho;simp only [ho] at h;exact h
 ·rename_i o ho
  simp only [ho] at h
  split
  ·rename_i hw
   simp only [hw,if_true] at h
   split at h
   ·obtain ⟨u,h1,h2⟩:=h
    exact .inl (UQ h1 h2)
   ·exact .inl (Oper.wp_mono (fun a w hk=>hk.2) h)
  ·rename_i hw
   simp only [hw] at h
   exact h
theorem anyJ.wpAny : ∀ (fuel:Nat) (listed:Array Bool) (a:Act) (w:World),anyJ P ops Q J fuel listed a w→wpAny P .any ops Q fuel listed a w
 | 0,_,_,_,h=>h
 | fuel+1,_,_,_,h=>⟨h.1,fun i hi=>wpOp_mono (fun a w=>anyJ.wpAny fuel _ a w) (h.2 i hi).wpOp⟩
def Yl (P:Program) (ops:Array Oper) (S:World→Prop) (o:Oper) (v:Value) (a:Act):Prop :=
 (Region.wanted o (yielded ops a.tmps)=true ∧ ∀ w,S w→(execOp a.eval o).run P w = .ok (.value v) w)∨(Region.wanted o (yielded ops a.tmps)=false∧v=undef)
theorem Yl.of_same {S:World→Prop} {o:Oper} {v:Value} {a a':Act} (hy:Yl P ops S o v a) (he:execOp a'.eval o=execOp a.eval o)
  (hw:Region.wanted o (yielded ops a'.tmps)=Region.wanted o (yielded ops a.tmps)):Yl P ops S o v a':=by
 unfold Yl at *
 rw [he,hw]
 exact hy
theorem Yl.stepJ {S:World→Prop} {i:Nat} {o:Oper} {v:Value} {a:Act} (hi:ops[i]? = some o) (hv:isV o.op=true) (hy:Yl P ops S o v a) {K:Act→World→Prop} {w:World} (hS:S w)
  (h:K (a.put o.dst v) w):stepJ P ops Q J i K a w:=by
 unfold Ab.stepJ
 simp only [hi,hv,if_true]
 rcases hy with ⟨hw,hr⟩|⟨hw,rfl⟩
 ·simp only [hw,if_true];exact ⟨v,hr w hS,h⟩
 ·simp only [hw,Bool.false_eq_true,if_false];exact h
def z9z (P:Program) (o:Oper) (S J:World→Prop):Prop:=(∀ w,J w→S w) ∨ ∀ a w n w',S w→(execOp (Act.eval a) o).run P w = .ok n w'→(J w'→S w') ∧ ∃ v,n = .value v
theorem z3h {S:World→Prop} {j:Nat} {oi oj:Oper} {v:Value} (hj:ops[j]? = some oj) (hap:oi.apart ops oj=true)
  (hsi : ∀ cs b,oi.op ≠ .select cs b) (hsj : ∀ cs b,oj.op ≠ .select cs b)
  (hQ : ∀ c a w,¬Q (.panic c) a w) {K:Act→World→Prop} {a:Act} {w:World} (hS:S w) (hSJ:isV oj.op=false→z9z P oj S J)
  (hy:Yl P ops S oi v a) (h:stepJ P ops Q J j K (a.put oi.dst v) w) :
  stepJ P ops Q J j (fun a' w'=>S w'∧Yl P ops S oi v a'∧K (a'.put oi.dst v) w') a w:=by
 obtain ⟨h1,h2,h3⟩:=Oper.apart_spec hap
 have keep : ∀ (a:Act),Yl P ops S oi v a → ∀ u,Yl P ops S oi v (a.put oj.dst u):=fun a hy u =>
  hy.of_same (execOp_put oi hsi a oj.dst u h3) (wanted_put oi a oj.dst u h3)
 have keepD : ∀ d,Yl P ops S oi v { a with defers:=d::a.defers }:=fun d=>hy.of_same rfl rfl
 unfold stepJ at *
 simp only [hj] at *
 rw [wanted_put oj a oi.dst v h1] at h
 split
 ·rename_i hw
  simp only [hw,if_true] at h
  split
  ·rename_i hv
   simp only [hv,if_true] at h
   obtain ⟨u,hr,hk⟩:=h
   rw [execOp_put oj hsj a oi.dst v h1] at hr
   exact ⟨u,hr,hS,keep a hy u,by rw [← Act.put_comm a v u h2];exact hk⟩
  ·rename_i hv
   simp only [hv,Bool.false_eq_true,if_false] at h
   have hSJ:=hSJ (by simpa using hv)
   unfold Oper.wp at *
   rw [execOp_put oj hsj a oi.dst v h1] at h
   generalize hrr:(execOp a.eval oj).run P w=r at *
   cases r with
   | ok n w' =>
     have hS':J w'→S w':=fun hJw=>hSJ.elim (fun h=>h _ hJw) fun h=>(h a w n w' hS hrr).1 hJw
     have hno:(∀ v,n ≠ .value v) → ∀ w,J w→S w:=fun hn=>hSJ.elim id fun h=>(let ⟨v,hv⟩:=(h a w n w' hS hrr).2;absurd hv (hn v))
     cases n<;>simp only [Oper.upon] at h ⊢
     case value u=>exact ⟨h.1,hS' h.1,keep a hy u,by rw [← Act.put_comm a v u h2];exact h.2⟩
     case skip=>exact ⟨h.1,hS' h.1,keep a hy _,by rw [← Act.put_comm a v undef h2];exact h.2⟩
     case defer d =>
      refine ⟨h.1,hS' h.1,keep _ (keepD d) _,?_⟩
      rw [← Act.put_comm _ v undef h2,← Act.put_defers]
      exact h.2
     case enter f args =>
      refine Calls.mono h fun e w'' he => ?_
      cases e with
      | returned u=>exact ⟨he.1,hno (by simp) _ he.1,keep a hy u,by rw [← Act.put_comm a v u h2];exact he.2⟩
      | panicked c=>exact (hQ _ _ _ he).elim
      | outgrown=>exact he
     case row row args=>exact Rows.mono h fun u w'' he=>⟨he.1,hno (by simp) _ he.1,keep a hy u,by rw [← Act.put_comm a v u h2];exact he.2⟩
   | halt x w' =>
     cases x<;>simp only [Oper.upon] at h ⊢
     case panic u=>exact (hQ _ _ _ h).elim
 ·rename_i hw
  simp only [hw] at h
  exact ⟨hS,keep a hy _,by rw [← Act.put_comm a v undef h2];exact h⟩
theorem DV {i:Nat} {oi:Oper} {v:Value} {S:World→Prop} (B:Nat→Prop) (hi:ops[i]? = some oi) (hiv:isV oi.op=true) (hsel : ∀ (j:Nat) (o:Oper) cs b,ops[j]? = some o→o.op ≠ .select cs b)
  (hQ : ∀ c a w,¬Q (.panic c) a w) (hB : ∀ j,B j→j≠i → ∀ oj,ops[j]? = some oj → ∃ e∈oj.after,Region.binds .any e=true∧B e.on) :
  ∀ (fuel:Nat) (listed:Array Bool) (a:Act) (w:World),(∀ j,B j→listed.getD j false=false) →
   (∀ j oj,ops[j]? = some oj→j≠i→listed.getD j true=false → ¬B j→oi.apart ops oj=true∧(isV oj.op=false→z9z P oj S J)) →
   i∈Region.ready .any ops listed→S w→Yl P ops S oi v a →
   anyJ P ops Q J fuel (listed.setIfInBounds i true) (a.put oi.dst v) w→anyJ P ops Q J (fuel+1) listed a w:=by
 intro fuel
 induction fuel with
 | zero =>
   intro listed a w _ _ hr hS hy H
   refine ⟨fun h=>(by rw [h] at hr;cases hr),fun j hj => ?_⟩
   by_cases hji:j=i
   ·subst hji;exact hy.stepJ hi hiv hS H
   ·have:=ready_mono hj hji
    rw [H.1] at this
    cases this
 | succ fuel ih =>
   intro listed a w hun hfree hr hS hy H
   refine ⟨fun h=>(by rw [h] at hr;cases hr),fun j hj => ?_⟩
   by_cases hji:j=i
   ·subst hji;exact hy.stepJ hi hiv hS H
   ·have h1:=H.2 j (ready_mono hj hji)
    obtain ⟨hjun,oj,hoj,hall⟩:=mem_ready.1 hj
    have hnot : ¬B j:=fun hb=>by
     obtain ⟨e,he,hbi,hbo⟩:=hB j hb hji oj hoj
     have h1:=hall e he hbi
     rw [hun _ hbo] at h1
     cases h1
    obtain ⟨hap,hSJ⟩:=hfree j oj hoj hji hjun hnot
    have h2:=z3h hoj hap (fun cs b=>hsel i oi cs b hi) (fun cs b=>hsel j oj cs b hoj) hQ hS hSJ hy h1
    have hfree' : ∀ k ok,ops[k]? = some ok→k≠i→(listed.setIfInBounds j true).getD k true=false →
      ¬B k→oi.apart ops ok=true∧(isV ok.op=false→z9z P ok S J):=fun k ok hk hki hun hno=>by
     refine hfree k ok hk hki ?_ hno
     by_cases hjk:j=k
     ·subst hjk;exact hjun
     ·rw [getD_set_ne true hjk] at hun;exact hun
    refine q6k (fun _ h=>h) (fun a' w' h3=>ih (listed.setIfInBounds j true) a' w' (fun k hk => ?_) hfree' (ready_mono hr (Ne.symm hji)) h3.1 h3.2.1 ?_) h2
    ·rw [getD_set_ne false (fun he:j=k=>hnot (by rw [he];exact hk))]
     exact hun k hk
    ·rw [Array.setIfInBounds_comm _ _ hji]
     exact h3.2.2
end
def x8m (p:Nat→Oper→Bool):List Oper→Nat→Bool
 | [],_=>true
 | o::r,i=>bif p i o then x8m p r (i+1) else false
theorem YM {p:Nat→Oper→Bool} : ∀ {l:List Oper} {k:Nat},x8m p l k=true → ∀ (j:Nat) (o:Oper),l[j]? = some o→p (k+j) o=true
 | [],_,_,j,o,h=>by simp at h
 | x::r,k,h,j,o,hj=>by
   unfold x8m at h
   cases hp:p k x with
   | false=>rw [hp] at h;cases h
   | true =>
     rw [hp,cond_true] at h
     cases j with
     | zero=>simp at hj;subst hj;exact hp
     | succ j =>
       have:=YM h j o (by simpa using hj)
       rwa [Nat.add_assoc,Nat.add_comm 1 j] at this
def z6m (p:Edge→Bool):List Edge→Bool
 | []=>true
 | e::r=>bif p e then z6m p r else false
theorem NR {p:Edge→Bool} : ∀ {l:List Edge},z6m p l=true ↔ ∀ e∈l,p e=true
 | []=>by simp [z6m]
 | x::r=>by
   unfold z6m
   cases hp:p x with
   | false=>simp [hp]
   | true=>simp [hp,NR (l:=r)]
def rdy (L:List Nat) (i:Nat) (o:Oper):Bool:=bif UF i L then false else z6m (fun e=>bif Region.binds .any e then UF e.on L else true) o.after.toList
def YA (L:List Nat):List Oper→Nat→List Nat→List Nat
 | [],_,B=>B
 | o::r,k,B=>YA L r (k+1) (bif UF k L then B else bif z6m (fun e=>bif Region.binds .any e then bif UF e.on B then false else true else true) o.after.toList then B else k::B)
theorem GP {i:Nat} : ∀ {l:List Nat},UF i l=true↔i∈l
 | []=>by simp [UF]
 | j::r=>by
   unfold UF
   by_cases h:j=i
   ·simp [h]
   ·have:(j==i)=false:=by simp [h]
    simp [this,GP (l:=r),Ne.symm h]
theorem KQ {L:List Nat} {i:Nat} {ops:List Oper} : ∀ (r:List Oper) (k:Nat) (B:List Nat),(∀ j o,r[j]? = some o→ops[k+j]? = some o)→(∀ j∈B,UF j L=false∧(j≠i → ∃ o,ops[j]? = some o ∧ ∃ e∈o.after,Region.binds .any e=true∧e.on∈B)) →
  ∀ j∈YA L r k B,UF j L=false∧(j≠i → ∃ o,ops[j]? = some o ∧ ∃ e∈o.after,Region.binds .any e=true∧e.on∈YA L r k B)
 | [],_,_,_,h=>h
 | o::r,k,B,hr,h=>by
   unfold YA
   have hr' : ∀ j x,r[j]? = some x→ops[k+1+j]? = some x:=fun j x hj=>by
    have:=hr (j+1) x (by simpa using hj)
    rwa [Nat.add_assoc,Nat.add_comm 1 j]
   cases hm:UF k L with
   | true=>rw [cond_true];exact KQ r (k+1) B hr' h
   | false =>
     rw [cond_false]
     cases ha:z6m (fun e=>bif Region.binds .any e then bif UF e.on B then false else true else true) o.after.toList with
     | true=>rw [cond_true];exact KQ r (k+1) B hr' h
     | false =>
       rw [cond_false]
       refine KQ r (k+1) (k::B) hr' fun j hj => ?_
       rcases List.mem_cons.1 hj with rfl|hj
       ·refine ⟨hm,fun _=>⟨o,hr 0 o rfl,?_⟩⟩
        apply Classical.byContradiction
        intro hn
        rw [← Bool.not_eq_true] at ha
        apply ha
        rw [NR]
        intro e he
        cases hb:Region.binds .any e with
        | false=>rfl
        | true =>
          cases hmb:UF e.on B with
          | false=>rfl
          | true=>exact absurd ⟨e,by simpa using he,hb,List.mem_cons_of_mem _ (GP.1 hmb)⟩ hn
       ·obtain ⟨h1,h2⟩:=h j hj
        refine ⟨h1,fun hne => ?_⟩
        obtain ⟨x,h3,e,h4,h5,h6⟩:=h2 hne
        exact ⟨x,h3,e,h4,h5,List.mem_cons_of_mem _ h6⟩
def z5m (o:Oper):Bool:=match o.op with | .select .. => false|_=>true
def w2d:Op→Bool
 | .buildSlice .. => true
 | _=>false
theorem z1l (w:World) (o:Obj):Old w { w with heap:=w.heap.push o }:=fun b hb=>by
 show (w.heap.push o)[b]? = _
 rw [Array.getElem?_push,if_neg (by omega)]
inductive Newy:{α:Type}→Sem α→Prop
 | pure {α:Type} (a:α):Newy (.pure a)
 | new {α:Type} (o:Obj) (k:Nat→Sem α) (h : ∀ r,Newy (k r)):Newy (.new o k)
 | program {α:Type} (k:Program→Sem α) (h : ∀ p,Newy (k p)):Newy (.program k)
 | halt {α:Type} (x:Halt):Newy (α:=α) (.halt x)
theorem Newy.bind {α β:Type} {m:Sem α} {f:α→Sem β} (h:Newy m) (hf : ∀ a,Newy (f a)):Newy (m.bind f):=by
 induction h with
 | pure a=>exact hf a
 | new o k _ ih=>exact .new o _ fun r=>ih r
 | program k _ ih=>exact .program _ fun p=>ih p
 | halt x=>exact .halt x
theorem Newy.old {α:Type} {m:Sem α} (h:Newy m) {P:Program} : ∀ {w w':World} {n:α},m.run P w = .ok n w'→Old w w':=by
 induction h with
 | pure a=>intro w w' n h;cases h;exact Old.refl w
 | new o k _ ih=>intro w w' n h;exact (z1l w o).trans (ih _ h)
 | program k _ ih=>intro w w' n h;exact ih _ h
 | halt x=>intro w w' n h;cases h
theorem q3r (t:TypeId):Newy (underlying t):=by
 refine .program _ fun p => ?_
 show Newy (match p.underlying t with|some d=>_|none=>_)
 split
 ·exact .pure _
 ·exact .halt _
theorem LQ (t:TypeId):Newy (typeInfo t):=by
 refine .program _ fun p => ?_
 show Newy (match p.info? t with|some d=>_|none=>_)
 split
 ·exact .pure _
 ·exact .halt _
theorem q5s (t:TypeId):Newy (zeroValue t):=by
 refine (LQ t).bind fun i => ?_
 show Newy (match i.zero with|some v=>_|none=>_)
 split
 ·exact .pure _
 ·exact .halt _
theorem q5z (t:TypeId) (n:Nat) (parts:Array (Nat×Value)):Newy (Instr.buildSlice t n parts):=by
 unfold Instr.buildSlice
 refine (q3r t).bind fun d => ?_
 split
 ·refine Newy.bind (.bind (LQ _) fun i => .pure _) fun sz => ?_
  have hrest : ∀ (el:TypeId) (zero:Array Value),Newy (match Instr.fill (fun i=>some (i*sz,sz)) (Array.map (fun x=>zero[x % zero.size]!) (Array.range (n*sz))) parts.toList with
    | some cells=>(do pure (Value.slice (some (← newRow el cells)) n n):Sem Value)
    | _=>stuck "buildSlice: a part of the wrong size"):=fun el zero=>by
   split
   ·exact Newy.bind (.new _ _ fun r => .pure _) fun r => .pure _
   ·exact .halt _
  split<;>split
  all_goals first
   | exact Newy.halt _
   | exact hrest _ _
   | exact Newy.bind (m:=zeroValue _) (q5s _) fun v=>hrest _ v.cells
 ·exact .halt _
theorem z2r {P:Program} {o:Oper} (ho:w2d o.op=true) {a:Act} {w w':World} {n:Next} (h:(execOp a.eval o).run P w = .ok n w'):Old w w' ∧ ∃ v,n = .value v:=by
 cases hop:o.op<;>rw [hop] at ho<;>first|cases ho|skip
 rename_i t len parts
 simp only [execOp,hop,Sem.run_bind] at h
 cases hr:(Instr.buildSlice t len (parts.map fun x=>(x.1,a.eval x.2))).run P w with
 | ok v w1 =>
   rw [hr] at h
   cases h
   exact ⟨(q5z _ _ _).old hr,v,rfl⟩
 | halt x w1 =>
   rw [hr] at h
   cases h
def UE (ops:Array Oper):List Nat→Sched→Bool
 | L,.nil=>x8m (fun j o=>bif rdy L j o then false else true) ops.toList 0
 | L,.cons i strict r=>match ops[i]? with
   | none=>false
   | some oi=>bif rdy L i oi then
      bif (bif isV oi.op then x8m (fun j o=>bif j==i then true else bif UF j L then true else bif UF j (YA L ops.toList 0 [i]) then true else bif oi.apart ops o then (bif isV o.op then true else bif strict then false else true) else false) ops.toList 0
       else x8m (fun j o=>bif j==i then true else bif rdy L j o then false else true) ops.toList 0) then UE ops (i::L) r else false
     else false
 | L,.alo i r=>match ops[i]? with
   | none=>false
   | some oi=>bif rdy L i oi then
      bif isV oi.op then bif x8m (fun j o=>bif j==i then true else bif UF j L then true else bif UF j (YA L ops.toList 0 [i]) then true else bif oi.apart ops o then (bif isV o.op then true else w2d o.op) else false) ops.toList 0 then UE ops (i::L) r else false
      else false
     else false
 | L,.fork i a j b=>match ops[i]?,ops[j]? with
   | some oi,some oj=>bif (bif rdy L i oi then bif rdy L j oj then x8m (fun k o=>bif k==i then true else bif k==j then true else bif rdy L k o then false else true) ops.toList 0 else false else false) then
      bif UE ops (i::L) a then UE ops (j::L) b else false else false
   | _,_=>false
def drW (P:Program) (T:Tab) (N:Nat) (ops:Array Oper):Sched→St→(St→Prop)→Prop
 | .nil,s,K=>K s
 | .cons i strict r,s,K=>match ops[i]? with
   | none=>False
   | some o=>q2x ops s o (fun s=>q3p P T N (bif isV o.op then strict else true) s o fun s=>UJ s fun s=>drW P T N ops r s K) fun s=>x8d N s o fun s=>UJ s fun s=>drW P T N ops r s K
 | .alo i r,s,K=>match ops[i]? with
   | none=>False
   | some o=>q2x ops s o (fun s=>q3p P T N true s o fun s=>UJ s fun s=>drW P T N ops r s K) fun s=>x8d N s o fun s=>UJ s fun s=>drW P T N ops r s K
 | .fork i a j b,s,K=>match ops[i]?,ops[j]? with
   | some oi,some oj=>q2x ops s oi (fun s=>q3p P T N true s oi fun s=>UJ s fun s=>drW P T N ops a s K) (fun s=>x8d N s oi fun s=>UJ s fun s=>drW P T N ops a s K) ∧
      q2x ops s oj (fun s=>q3p P T N true s oj fun s=>UJ s fun s=>drW P T N ops b s K) (fun s=>x8d N s oj fun s=>UJ s fun s=>drW P T N ops b s K)
   | _,_=>False
section
variable {P:Program} {T:Tab} {N:Nat} {ops:Array Oper}
def Ls (n:Nat) (L:List Nat) (listed:Array Bool):Prop:=listed.size=n ∧ ∀ j,j<n→listed[j]? = some (UF j L)
theorem Ls.set {n:Nat} {L:List Nat} {listed:Array Bool} (h:Ls n L listed) {i:Nat}:Ls n (i::L) (listed.setIfInBounds i true):=by
 refine ⟨by simpa using h.1,fun j hj => ?_⟩
 by_cases hij:i=j
 ·subst hij
  simp [UF,h.1,hj]
 ·rw [Array.getElem?_setIfInBounds_ne hij,h.2 j hj]
  have:(i==j)=false:=by simp [hij]
  simp [UF,this]
theorem Ls.getT {n:Nat} {L:List Nat} {listed:Array Bool} (h:Ls n L listed) {j:Nat} (hj:j<n) (b:Bool):listed.getD j b=UF j L:=by
 have:=h.2 j hj
 have hlt:j<listed.size:=by rw [h.1];exact hj
 simp [hlt] at this ⊢
 exact this
theorem Ls.ready {L:List Nat} {listed:Array Bool} (h:Ls ops.size L listed) (he : ∀ (i:Nat) (o:Oper),ops[i]? = some o → ∀ e∈o.after,e.on<ops.size) {j:Nat} {o:Oper} (hj:ops[j]? = some o):j∈Region.ready .any ops listed↔rdy L j o=true:=by
 have hlt:=(Array.getElem?_eq_some_iff.1 hj).1
 rw [mem_ready,h.getT hlt]
 unfold rdy
 cases hm:UF j L with
 | true=>simp
 | false =>
   simp only [hj,Option.some.injEq,exists_eq_left',true_and,cond_false]
   rw [NR]
   constructor
   ·intro h' e hm
    have:=h' e (by simpa using hm)
    cases hb:Region.binds .any e with
    | false=>rfl
    | true=>rw [cond_true,← h.getT (he j o hj e (by simpa using hm)) false];exact this hb
   ·intro h' e hm hb
    have:=h' e (by simpa using hm)
    rw [hb,cond_true] at this
    rw [h.getT (he j o hj e hm)]
    exact this
def x4s (n:Nat) (l:List Oper):Bool:=x8m (fun _ o=>bif z5m o then z6m (fun e=>Nat.blt e.on n) o.after.toList else false) l 0
def Sched.len:Sched→Nat
 | .nil=>0
 | .cons _ _ r=>r.len+1
 | .alo _ r=>r.len+1
 | .fork _ a _ b=>max a.len b.len+1
theorem x6g {Q:Exit→Act→World→Prop} {J:World→Prop} {L:List Nat} {listed:Array Bool} {fuel:Nat} {a:Act} {w:World} (ls:List Nat) (hne:ls≠[]) (h:Ls ops.size L listed) (he : ∀ (i:Nat) (o:Oper),ops[i]? = some o → ∀ e∈o.after,e.on<ops.size)
  (hr : ∀ i∈ls,∃ o,ops[i]? = some o∧rdy L i o=true) (hx : ∀ (i:Nat) (o:Oper),ops[i]? = some o→rdy L i o=true→i∈ls)
  (hs : ∀ i∈ls,stepJ P ops Q J i (anyJ P ops Q J fuel (listed.setIfInBounds i true)) a w):anyJ P ops Q J (fuel+1) listed a w:=by
 refine ⟨fun h0 => ?_,fun j hj => ?_⟩
 ·cases ls with
  | nil=>exact absurd rfl hne
  | cons i r =>
    obtain ⟨o,ho,hrd⟩:=hr i (by simp)
    have:=(h.ready he ho).2 hrd
    rw [h0] at this
    cases this
 ·obtain ⟨_,o,ho,_⟩:=mem_ready.1 hj
  exact hs j (hx j o ho ((h.ready he ho).1 hj))
theorem z1v (hT:TabOK P T) (hsel : ∀ (j:Nat) (o:Oper) cs b,ops[j]? = some o→o.op ≠ .select cs b) (he : ∀ (i:Nat) (o:Oper),ops[i]? = some o → ∀ e∈o.after,e.on<ops.size) :
  ∀ (r:Sched) {L:List Nat} {listed:Array Bool} {s:St} {K:St→Prop} {σ:Mem} {β:Lab} {a:Act} {w:World} {F:Act→World→Prop} {fuel:Nat},UE ops L r=true→Ls ops.size L listed→drW P T N ops r s K→Rel N σ β s a w →
  (∀ a' w' σ' β' s',K s'→Rel N σ' β' s' a' w'→Later σ β s.H w σ' β' s'.H w'→F a' w')→r.len≤fuel→anyJ P ops (fun e a w=>e = .normal∧F a w) σ.lies fuel listed a w:=by
 have step1 : ∀ {i:Nat} {oi:Oper} {listed:Array Bool} {s:St} {K:St→Prop} {σ:Mem} {β:Lab} {a:Act} {w:World} {F:Act→World→Prop} {r:Sched} {fuel:Nat},ops[i]? = some oi →
   (q2x ops s oi (fun s=>q3p P T N true s oi fun s=>drW P T N ops r s K) fun s=>x8d N s oi fun s=>drW P T N ops r s K)→Rel N σ β s a w →
   (∀ a' w' σ' β' s',K s'→Rel N σ' β' s' a' w'→Later σ β s.H w σ' β' s'.H w'→F a' w') →
   (∀ {s:St} {σ':Mem} {β':Lab} {a':Act} {w':World},drW P T N ops r s K→Rel N σ' β' s a' w'→(∀ a'' w'' σ'' β'' s'',K s''→Rel N σ'' β'' s'' a'' w''→Later σ' β' s.H w' σ'' β'' s''.H w''→F a'' w'') →
     anyJ P ops (fun e a w=>e = .normal∧F a w) σ'.lies fuel (listed.setIfInBounds i true) a' w') →
   stepJ P ops (fun e a w=>e = .normal∧F a w) σ.lies i (anyJ P ops (fun e a w=>e = .normal∧F a w) σ.lies fuel (listed.setIfInBounds i true)) a w:=by
  intro i oi listed s K σ β a w F r fuel hi h hr hF ih
  unfold stepJ
  simp only [hi]
  obtain ⟨s1,hH,hr1,hw⟩:=KS h hr
  rcases hw with ⟨hw,h⟩|⟨hw,h⟩
  ·rw [if_pos hw]
   split
   ·rename_i hv
    unfold q3p at h
    simp only [hv,cond_true] at h
    obtain ⟨v,u,hK,hrep,hrun⟩:=DZ hT h hr1.slots hr1.heap
    rw [XG] at hK
    obtain ⟨sl,hK,hr'⟩:=hr1.setD hrep hK
    exact ⟨u,hrun w hr1.heap.mem fun _=>Old.refl w,ih hK hr' fun a'' w'' σ'' β'' s'' hK' hr'' hl'=>hF a'' w'' σ'' β'' s'' hK' hr'' (hH▸hl')⟩
   refine Oper.wp_mono (fun a' w' hk => ?_) (q5u hT h hr1 _)
   obtain ⟨σ',β',s',hK,hr',hl⟩:=hk
   rw [hH] at hl
   have hmono : ∀ w,σ'.lies w→σ.lies w:=fun w hw b c hb=>hw b c (hl.le b c hb)
   exact ⟨hmono _ hr'.heap.mem,x1x hmono _ _ _ _ (ih hK hr' fun a'' w'' σ'' β'' s'' hK' hr'' hl'=>hF a'' w'' σ'' β'' s'' hK' hr'' (hl.trans hl'))⟩
  ·rw [if_neg (by rw [hw];simp)]
   obtain ⟨sl,hK,hr'⟩:=hr1.setD (u:=undef) (.p .und) h
   exact ih hK hr' fun a'' w'' σ'' β'' s'' hK' hr'' hl'=>hF a'' w'' σ'' β'' s'' hK' hr'' (hH▸hl')
 intro r
 induction r with
 | nil =>
   intro L listed s K σ β a w F fuel hok hL h hr hF _
   have hno:Region.ready .any ops listed=[]:=by
    refine List.eq_nil_iff_forall_not_mem.2 fun j hj => ?_
    obtain ⟨_,o,ho,_⟩:=mem_ready.1 hj
    have h1:=YM hok j o (by simpa using ho)
    have h2:=(hL.ready he ho).1 hj
    simp [h2] at h1
   have hq:F a w:=hF a w σ β s h hr (Later.refl _ _ _ _)
   cases fuel with
   | zero=>exact ⟨hno,rfl,hq⟩
   | succ fuel=>exact ⟨fun _=>⟨rfl,hq⟩,by rw [hno];simp⟩
 | cons i strict r ih =>
   intro L listed s K σ β a w F fuel hok hL h hr hF hfu
   obtain ⟨fuel,rfl⟩ : ∃ f,fuel=f+1:=⟨fuel-1,by simp [Sched.len] at hfu;omega⟩
   replace hfu:r.len≤fuel:=by simp [Sched.len] at hfu;omega
   simp only [UE] at hok
   simp only [drW,KV] at h
   cases hi:ops[i]? with
   | none=>rw [hi] at hok;cases hok
   | some oi =>
     rw [hi] at hok h
     simp only at hok h
     cases hrd:rdy L i oi with
     | false=>rw [hrd] at hok;cases hok
     | true =>
       rw [hrd,cond_true] at hok
       cases hv:isV oi.op with
       | false =>
         rw [hv,cond_false] at hok
         cases hall:x8m (fun j o=>bif j==i then true else bif rdy L j o then false else true) ops.toList 0 with
         | false=>rw [hall] at hok;cases hok
         | true =>
           rw [hall,cond_true] at hok
           simp only [hv,cond_false] at h
           refine x6g [i] (by simp) hL he (fun j hj => ?_) (fun j o ho hjr => ?_) fun j hj => ?_
           ·rw [List.mem_singleton] at hj;subst hj;exact ⟨oi,hi,hrd⟩
           ·have h1:=YM hall j o (by simpa using ho)
            by_cases hji:j=i
            ·simp [hji]
            ·simp [hji,hjr] at h1
           ·rw [List.mem_singleton] at hj
            subst hj
            exact step1 hi h hr hF fun hK hr' hF'=>ih hok hL.set hK hr' hF' hfu
       | true =>
         rw [hv,cond_true] at hok
         cases hall:x8m (fun j o=>bif j==i then true else bif UF j L then true else bif UF j (YA L ops.toList 0 [i]) then true else bif oi.apart ops o then (bif isV o.op then true else bif strict then false else true) else false) ops.toList 0 with
         | false=>rw [hall] at hok;cases hok
         | true =>
           rw [hall,cond_true] at hok
           have hmi:UF i L=false:=by
            unfold rdy at hrd
            cases hm:UF i L with
            | false=>rfl
            | true=>rw [hm] at hrd;cases hrd
           have hwl:=KQ (L:=L) (i:=i) (ops:=ops.toList) ops.toList 0 [i] (fun j o hj=>by simpa using hj) (fun j hj=>by
            rw [List.mem_singleton] at hj
            subst hj
            exact ⟨hmi,fun h=>absurd rfl h⟩)
           have hB : ∀ j,j∈YA L ops.toList 0 [i]→j≠i → ∀ oj,ops[j]? = some oj → ∃ e∈oj.after,Region.binds .any e=true∧e.on∈YA L ops.toList 0 [i]:=fun j hj hne oj ho=>by
            obtain ⟨x,h1,h2⟩:=(hwl j hj).2 hne
            have h1':ops[j]? = some x:=by simpa using h1
            rw [ho] at h1'
            cases h1'
            exact h2
           have hun : ∀ j,j∈YA L ops.toList 0 [i]→listed.getD j false=false:=fun j hj=>by
            rcases Nat.lt_or_ge j ops.size with hlt|hge
            ·rw [hL.getT hlt];exact (hwl j hj).1
            ·have:listed.size≤j:=by rw [hL.1];exact hge
             simp [Array.getElem?_eq_none this]
           have hfree : ∀ (S:World→Prop),(strict=false → ∀ w,σ.lies w→S w) → ∀ j oj,ops[j]? = some oj→j≠i→listed.getD j true=false → ¬j∈YA L ops.toList 0 [i]→oi.apart ops oj=true∧(isV oj.op=false→z9z P oj S σ.lies):=fun S hS j oj hj hne hun hno=>by
            have h1:=YM hall j oj (by simpa using hj)
            have hw:UF j (YA L ops.toList 0 [i])=false:=by
             rw [← Bool.not_eq_true,GP]
             exact hno
            have hjl:=(Array.getElem?_eq_some_iff.1 hj).1
            rw [hL.getT hjl] at hun
            have hb:(j==i)=false:=by simp [hne]
            simp only [Nat.zero_add,hb,hun,hw,cond_false] at h1
            cases hap:oi.apart ops oj with
            | false=>rw [hap] at h1;cases h1
            | true =>
              rw [hap,cond_true] at h1
              refine ⟨rfl,fun hvj => .inl (hS ?_)⟩
              rw [hvj,cond_false] at h1
              cases strict
              ·rfl
              ·cases h1
           have hready:=(hL.ready he hi).2 hrd
           obtain ⟨s1,hH,hr1,hw⟩:=KS h hr
           rcases hw with ⟨hw,h⟩|⟨hw,h⟩
           ·unfold q3p at h
            simp only [hv,cond_true] at h
            obtain ⟨v,u,hK,hrep,hrun⟩:=DZ hT h hr1.slots hr1.heap
            rw [XG] at hK
            obtain ⟨sl,hK,hr'⟩:=hr1.setD hrep hK
            refine DV (B:=(· ∈ YA L ops.toList 0 [i])) (v:=u) (S:=fun w'=>σ.lies w'∧(strict=true→w'=w)) hi hv hsel (by simp) hB fuel listed a w hun (hfree _ fun hs w' hl=>⟨hl,by simp [hs]⟩) hready ⟨hr.heap.mem,fun _=>rfl⟩ (.inl ⟨hw,fun w' hw'=>hrun w' hw'.1 fun hs=>hw'.2 hs▸Old.refl w⟩) ?_
            exact ih hok hL.set hK hr' (fun a'' w'' σ'' β'' s'' hK' hr'' hl'=>hF a'' w'' σ'' β'' s'' hK' hr'' (hH▸hl')) hfu
           ·obtain ⟨sl,hK,hr'⟩:=hr1.setD (u:=undef) (.p .und) h
            refine DV (B:=(· ∈ YA L ops.toList 0 [i])) (v:=undef) (S:=fun w'=>σ.lies w'∧(strict=true→w'=w)) hi hv hsel (by simp) hB fuel listed a w hun (hfree _ fun hs w' hl=>⟨hl,by simp [hs]⟩) hready ⟨hr.heap.mem,fun _=>rfl⟩ (.inr ⟨hw,rfl⟩) ?_
            exact ih hok hL.set hK hr' (fun a'' w'' σ'' β'' s'' hK' hr'' hl'=>hF a'' w'' σ'' β'' s'' hK' hr'' (hH▸hl')) hfu
 | alo i r ih =>
   intro L listed s K σ β a w F fuel hok hL h hr hF hfu
   obtain ⟨fuel,rfl⟩ : ∃ f,fuel=f+1:=⟨fuel-1,by simp [Sched.len] at hfu;omega⟩
   replace hfu:r.len≤fuel:=by simp [Sched.len] at hfu;omega
   simp only [UE] at hok
   simp only [drW,KV] at h
   cases hi:ops[i]? with
   | none=>rw [hi] at hok;cases hok
   | some oi =>
     rw [hi] at hok h
     simp only at hok h
     cases hrd:rdy L i oi with
     | false=>rw [hrd] at hok;cases hok
     | true =>
       rw [hrd,cond_true] at hok
       cases hv:isV oi.op with
       | false=>rw [hv] at hok;cases hok
       | true =>
         rw [hv,cond_true] at hok
         cases hall:x8m (fun j o=>bif j==i then true else bif UF j L then true else bif UF j (YA L ops.toList 0 [i]) then true else bif oi.apart ops o then (bif isV o.op then true else w2d o.op) else false) ops.toList 0 with
         | false=>rw [hall] at hok;cases hok
         | true =>
           rw [hall,cond_true] at hok
           have hmi:UF i L=false:=by
            unfold rdy at hrd
            cases hm:UF i L with
            | false=>rfl
            | true=>rw [hm] at hrd;cases hrd
           have hwl:=KQ (L:=L) (i:=i) (ops:=ops.toList) ops.toList 0 [i] (fun j o hj=>by simpa using hj) (fun j hj=>by
            rw [List.mem_singleton] at hj
            subst hj
            exact ⟨hmi,fun h=>absurd rfl h⟩)
           have hB : ∀ j,j∈YA L ops.toList 0 [i]→j≠i → ∀ oj,ops[j]? = some oj → ∃ e∈oj.after,Region.binds .any e=true∧e.on∈YA L ops.toList 0 [i]:=fun j hj hne oj ho=>by
            obtain ⟨x,h1,h2⟩:=(hwl j hj).2 hne
            have h1':ops[j]? = some x:=by simpa using h1
            rw [ho] at h1'
            cases h1'
            exact h2
           have hun : ∀ j,j∈YA L ops.toList 0 [i]→listed.getD j false=false:=fun j hj=>by
            rcases Nat.lt_or_ge j ops.size with hlt|hge
            ·rw [hL.getT hlt];exact (hwl j hj).1
            ·have:listed.size≤j:=by rw [hL.1];exact hge
             simp [Array.getElem?_eq_none this]
           have hfree : ∀ j oj,ops[j]? = some oj→j≠i→listed.getD j true=false → ¬j∈YA L ops.toList 0 [i]→oi.apart ops oj=true∧(isV oj.op=false→z9z P oj (fun w'=>σ.lies w'∧Old w w') σ.lies):=fun j oj hj hne hun hno=>by
            have h1:=YM hall j oj (by simpa using hj)
            have hw:UF j (YA L ops.toList 0 [i])=false:=by
             rw [← Bool.not_eq_true,GP]
             exact hno
            have hjl:=(Array.getElem?_eq_some_iff.1 hj).1
            rw [hL.getT hjl] at hun
            have hb:(j==i)=false:=by simp [hne]
            simp only [Nat.zero_add,hb,hun,hw,cond_false] at h1
            cases hap:oi.apart ops oj with
            | false=>rw [hap] at h1;cases h1
            | true =>
              rw [hap,cond_true] at h1
              refine ⟨rfl,fun hvj => .inr fun a' w1 n w2 hS hrun => ?_⟩
              rw [hvj,cond_false] at h1
              obtain ⟨h2,h3⟩:=z2r h1 hrun
              exact ⟨fun hJ=>⟨hJ,hS.2.trans h2⟩,h3⟩
           have hready:=(hL.ready he hi).2 hrd
           obtain ⟨s1,hH,hr1,hw⟩:=KS h hr
           rcases hw with ⟨hw,h⟩|⟨hw,h⟩
           ·unfold q3p at h
            simp only [hv,cond_true] at h
            obtain ⟨v,u,hK,hrep,hrun⟩:=DZ hT h hr1.slots hr1.heap
            rw [XG] at hK
            obtain ⟨sl,hK,hr'⟩:=hr1.setD hrep hK
            refine DV (B:=(· ∈ YA L ops.toList 0 [i])) (v:=u) (S:=fun w'=>σ.lies w'∧Old w w') hi hv hsel (by simp) hB fuel listed a w hun hfree hready ⟨hr.heap.mem,Old.refl w⟩ (.inl ⟨hw,fun w' hw'=>hrun w' hw'.1 fun _=>hw'.2⟩) ?_
            exact ih hok hL.set hK hr' (fun a'' w'' σ'' β'' s'' hK' hr'' hl'=>hF a'' w'' σ'' β'' s'' hK' hr'' (hH▸hl')) hfu
           ·obtain ⟨sl,hK,hr'⟩:=hr1.setD (u:=undef) (.p .und) h
            refine DV (B:=(· ∈ YA L ops.toList 0 [i])) (v:=undef) (S:=fun w'=>σ.lies w'∧Old w w') hi hv hsel (by simp) hB fuel listed a w hun hfree hready ⟨hr.heap.mem,Old.refl w⟩ (.inr ⟨hw,rfl⟩) ?_
            exact ih hok hL.set hK hr' (fun a'' w'' σ'' β'' s'' hK' hr'' hl'=>hF a'' w'' σ'' β'' s'' hK' hr'' (hH▸hl')) hfu
 | fork i ra j rb iha ihb =>
   intro L listed s K σ β a w F fuel hok hL h hr hF hfu
   obtain ⟨fuel,rfl⟩ : ∃ f,fuel=f+1:=⟨fuel-1,by simp [Sched.len] at hfu;omega⟩
   have hfa:ra.len≤fuel:=by simp [Sched.len] at hfu;omega
   have hfb:rb.len≤fuel:=by simp [Sched.len] at hfu;omega
   simp only [UE] at hok
   simp only [drW,KV] at h
   cases hi:ops[i]? with
   | none=>rw [hi] at hok;cases hok
   | some oi =>
     cases hj:ops[j]? with
     | none=>rw [hi,hj] at hok;cases hok
     | some oj =>
       rw [hi,hj] at hok h
       simp only at hok h
       ···cases hri:rdy L i oi with
         | false=>rw [hri] at hok;cases hok
         | true =>
           cases hrj:rdy L j oj with
           | false=>rw [hri,hrj] at hok;cases hok
           | true =>
             simp only [hri,hrj,cond_true] at hok
             cases hall:x8m (fun k o=>bif k==i then true else bif k==j then true else bif rdy L k o then false else true) ops.toList 0 with
             | false=>rw [hall] at hok;cases hok
             | true =>
               rw [hall,cond_true] at hok
               cases hoa:UE ops (i::L) ra with
               | false=>rw [hoa] at hok;cases hok
               | true =>
                 rw [hoa,cond_true] at hok
                 refine x6g [i,j] (by simp) hL he (fun k hk => ?_) (fun k o ho hkr => ?_) fun k hk => ?_
                 ·rw [List.mem_cons,List.mem_singleton] at hk
                  rcases hk with rfl|rfl
                  ·exact ⟨oi,hi,hri⟩
                  ·exact ⟨oj,hj,hrj⟩
                 ·have h1:=YM hall k o (by simpa using ho)
                  by_cases hki:k=i
                  ·simp [hki]
                  ·by_cases hkj:k=j
                   ·simp [hkj]
                   ·simp [hki,hkj,hkr] at h1
                 ·rw [List.mem_cons,List.mem_singleton] at hk
                  rcases hk with rfl|rfl
                  ·exact step1 hi h.1 hr hF fun hK hr' hF'=>iha hoa hL.set hK hr' hF' hfa
                  ·exact step1 hj h.2 hr hF fun hK hr' hF'=>ihb hok hL.set hK hr' hF' hfb
theorem DrawK.of {info:Info} {id:Nat} {K:St→Prop} {s:St} (hT:TabOK P T) (hm:P.follows .mixedOrders=true) (r:Sched) (hok:(bif x4s ops.size ops.toList then bif Nat.ble r.len ops.size then UE ops [] r else false else false)=true)
  (h:drW P T N ops r s K):DrawK P T N info id ops K s:=by
 cases h1:x4s ops.size ops.toList with
 | false=>rw [h1] at hok;cases hok
 | true =>
   cases h2:Nat.ble r.len ops.size with
   | false=>rw [h1,h2] at hok;cases hok
   | true =>
     rw [h1,h2,cond_true,cond_true] at hok
     have hin : ∀ j o,ops[j]? = some o→z5m o=true ∧ ∀ e∈o.after,e.on<ops.size:=fun j o hj=>by
      have h:=YM h1 j o (by simpa using hj)
      cases hn:z5m o with
      | false=>rw [hn] at h;cases h
      | true =>
        rw [hn,cond_true,NR] at h
        exact ⟨rfl,fun e hm=>by have:=h e (by simpa using hm);simpa [Nat.blt_eq] using this⟩
     have hsel : ∀ (j:Nat) (o:Oper) cs b,ops[j]? = some o→o.op ≠ .select cs b:=fun j o cs b hj he=>by
      have:=(hin j o hj).1
      unfold z5m at this
      rw [he] at this
      cases this
     refine ⟨⟨fun σ β a w hr => ?_⟩⟩
     have hr':Rel N σ β s a { w with drawn:=w.drawn+1 }:=⟨hr.size,hr.defers,hr.slots,⟨hr.heap.mem,fun k c h=>(hr.heap.chunks k c h).mono (Mem.le_refl σ) fun _ _ _ _=>rfl,hr.heap.nodup,hr.heap.apart,hr.heap.inj⟩⟩
     have hinit:Ls ops.size [] (Array.replicate ops.size false):=⟨by simp,fun j hj=>by simp [hj,UF]⟩
     refine wp_mono (wp_region_any hm (anyJ.wpAny _ _ _ _ (z1v (F:=fun a' w' => ∃ σ' β' s',K s'∧Rel N σ' β' s' a' w'∧Later σ β s.H w σ' β' s'.H w') hT hsel (fun i o hi=>(hin i o hi).2) r hok hinit h hr' (fun a' w' σ' β' s' hK hr'' hl=>⟨σ',β',s',hK,hr'',?_⟩) (Nat.le_of_ble_eq_true h2)))) ?_
     ·exact ⟨hl.le,⟨hl.frm.os,hl.frm.tape,hl.frm.output,Nat.le_trans (Nat.le_succ _) hl.frm.drawn,hl.frm.size,hl.frm.block⟩,hl.mem,hl.own,hl.pin⟩
     ·rintro e a' w' ⟨rfl,h⟩
      exact h
end
inductive Wk (new:List (Nat×Chunk)):LV→LV→Prop
 | refl (l:LV):Wk new l l
 | of_eq {l l':LV} (h:l=l'):Wk new l l'
 | any (l:LV):Wk new l (.p .any)
 | p {a b:AV} (h:Sub a b):Wk new (.p a) (.p b)
 | nil {k e sz:Nat} (h:(k,Chunk.own e sz [])∈new):Wk new (.p .nils) (.hd k 0 0)
inductive WkS (new:List (Nat×Chunk)) (sl:List (Nat×LV)):List (Nat×LV)→Prop
 | nil:WkS new sl []
 | cons {i:Nat} {l:LV} {r:List (Nat×LV)} (h:Wk new (getS sl i) l) (hr:WkS new sl r):WkS new sl ((i,l)::r)
theorem WkS.get {new:List (Nat×Chunk)} {sl sl':List (Nat×LV)} (h:WkS new sl sl') (i:Nat):Wk new (getS sl i) (getS sl' i):=by
 induction h with
 | nil=>exact .any _
 | @cons j l r h hr ih =>
   simp only [getS]
   by_cases hj:j=i
   ·subst hj;simpa using h
   ·have:(j==i)=false:=by simp [hj]
    simpa [this] using ih
inductive WkL (new:List (Nat×Chunk)):List LV→List LV→Prop
 | nil:WkL new [] []
 | cons {l l':LV} {r r':List LV} (h:Wk new l l') (hr:WkL new r r'):WkL new (l::r) (l'::r')
theorem WkL.get {new:List (Nat×Chunk)} {ls ls':List LV} (h:WkL new ls ls'):ls.length=ls'.length ∧ ∀ (j:Nat) (l':LV),ls'[j]? = some l' → ∃ l,ls[j]? = some l∧Wk new l l':=by
 induction h with
 | nil=>exact ⟨rfl,by simp⟩
 | cons h hr ih =>
   refine ⟨by simp [ih.1],fun j l' hj => ?_⟩
   cases j with
   | zero=>simp at hj;subst hj;exact ⟨_,rfl,h⟩
   | succ j=>exact ih.2 j l' (by simpa using hj)
inductive CWk (new:List (Nat×Chunk)):Chunk→Chunk→Prop
 | refl (c:Chunk):CWk new c c
 | of_eq {c c':Chunk} (h:c=c'):CWk new c c'
 | obj {e:TypeId} {cs cs':List LV} (h:WkL new cs cs'):CWk new (.obj e cs) (.obj e cs')
inductive WkH (new H:List (Nat×Chunk)):List (Nat×Chunk)→Prop
 | nil:WkH new H []
 | cons {k:Nat} {c c':Chunk} {r:List (Nat×Chunk)} (hg:getH H k=some c) (h:CWk new c c') (hr:WkH new H r):WkH new H ((k,c')::r)
 | new {c:Nat×Chunk} {r:List (Nat×Chunk)} (h:c∈new) (hr:WkH new H r):WkH new H (c::r)
theorem WkH.get {new H H':List (Nat×Chunk)} (h:WkH new H H') : ∀ x∈H',x∈new ∨ ∃ c,(x.1,c)∈H∧CWk new c x.2:=by
 induction h with
 | nil=>simp
 | cons hg h hr ih =>
   intro x hx
   rcases List.mem_cons.1 hx with rfl|hx
   ·exact .inr ⟨_,QP hg,h⟩
   ·exact ih x hx
 | new h hr ih =>
   intro x hx
   rcases List.mem_cons.1 hx with rfl|hx
   ·exact .inl h
   ·exact ih x hx
def Chunk.new0:Chunk→Bool
 | .own _ _ []=>true
 | _=>false
theorem Rel.nils {σ:Mem} {v:Value} (h:Rep σ .nils v):v = .slice none 0 0:=by cases h;rfl
theorem Rel.begin {N:Nat} {σ:Mem} {s:St} {a:Act} {w:World} : ∀ (new:List (Nat×Chunk)) {β:Lab},(∀ c∈new,c.2.new0=true∧VP c.1 s=true)→(new.map (·.1)).Nodup→Rel N σ β s a w →
  ∃ β',Rel N σ β' ⟨s.sl,new++s.H⟩ a w∧(∀ c∈new,β' c.1=none)∧(∀ b,owns β' (new++s.H) b→owns β s.H b) ∧ ∀ j,1000≤j→j<2000→β' j=β j
 | [],β,_,_,h=>⟨β,h,by simp,fun _ hb=>hb,fun _ _ _=>rfl⟩
 | (k,c)::r,β,hn,hnd,h=>by
   obtain ⟨β1,h1,h2,h3,h4⟩:=Rel.begin r (fun c hc=>hn c (List.mem_cons_of_mem _ hc)) (List.nodup_cons.1 hnd).2 h
   obtain ⟨hc0,hk⟩:=hn (k,c) List.mem_cons_self
   obtain ⟨hu1,hu2⟩:=ZY hk
   have hkr:k∉r.map (·.1):=(List.nodup_cons.1 hnd).1
   have hall : ∀ j d,(j,d)∈r++s.H→j≠k∧d.free k=true:=fun j d hd=>by
    rcases List.mem_append.1 hd with hd|hd
    ·refine ⟨fun he=>hkr (List.mem_map.2 ⟨_,hd,he⟩),?_⟩
     have:=(hn (j,d) (List.mem_cons_of_mem _ hd)).1
     cases d with
     | obj=>cases this
     | own=>rfl
     | ext=>cases this
    ·exact hu1 j d hd
   have hset : ∀ j,j≠k→(β1.set k none) j=β1 j:=fun j hj=>by simp [Lab.set,hj]
   have hsetk:(β1.set k none) k=none:=by simp [Lab.set]
   have hlab : ∀ j∈(r++s.H).map (·.1),j≠k:=fun j hj=>by
    obtain ⟨⟨j',d⟩,hm,rfl⟩:=List.mem_map.1 hj
    exact (hall j' d hm).1
   refine ⟨β1.set k none,⟨h1.size,h1.defers,fun i=>(h1.slots i).set none (hu2 i),⟨h1.heap.mem,fun j d hd => ?_,?_,fun j hj i hi b hb => ?_,fun j hj j' hj' i i' hi hi' b hb hb' => ?_⟩⟩,fun d hd => ?_,fun b hb => ?_,fun j h0 h5 => ?_⟩
   ·rcases List.mem_cons.1 hd with he|hd
    ·cases he
     cases c with
     | obj=>cases hc0
     | ext=>cases hc0
     | own e sz es =>
       cases es with
       | nil=>exact .inl ⟨hsetk,rfl⟩
       | cons=>cases hc0
    ·exact (h1.heap.chunks j d hd).set none (hall j d hd).1 (hall j d hd).2
   ·exact List.nodup_cons.2 ⟨fun hk=>hlab k hk rfl,h1.heap.nodup⟩
   ·rcases List.mem_cons.1 hj with rfl|hj
    ·rw [hsetk] at hi;cases hi
    ·rw [hset j (hlab j hj)] at hi
     exact h1.heap.apart j hj i hi b hb
   ·rcases List.mem_cons.1 hj with rfl|hj
    ·rw [hsetk] at hi;cases hi
    ·rcases List.mem_cons.1 hj' with rfl|hj'
     ·rw [hsetk] at hi';cases hi'
     ·rw [hset j (hlab j hj)] at hi
      rw [hset j' (hlab j' hj')] at hi'
      exact h1.heap.inj j hj j' hj' i i' hi hi' b hb hb'
   ·rcases List.mem_cons.1 hd with rfl|hd
    ·exact hsetk
    ·rw [hset d.1 fun he=>hkr (List.mem_map.2 ⟨_,hd,he⟩)]
     exact h2 d hd
   ·obtain ⟨j,hj,i,hi,hb⟩:=hb
    rcases List.mem_cons.1 hj with rfl|hj
    ·rw [hsetk] at hi;cases hi
    ·rw [hset j (hlab j hj)] at hi
     exact h3 b ⟨j,hj,i,hi,hb⟩
   ·have:=JA hk
    rw [hset j (by show j≠k;simp only at this;omega)]
    exact h4 j h0 h5
theorem Le.mk {N:Nat} {s:St} {sl':List (Nat×LV)} {H':Heap} (new:List (Nat×Chunk)) (hnew : ∀ c∈new,c.2.new0=true∧VP c.1 s=true) (hndn:(new.map (·.1)).Nodup) (hnd:(H'.map (·.1)).Nodup) (hsl:WkS new s.sl sl') (hH:WkH new s.H H'):Le N s ⟨sl',H'⟩:=fun σ β a w h=>by
 obtain ⟨β',h1,h2,h3,h4⟩:=Rel.begin new hnew hndn h
 have hH:=hH.get
 have hlab : ∀ j∈H'.map (·.1),j∈(new++s.H).map (·.1):=fun j hj=>by
  obtain ⟨⟨j',c⟩,hm,rfl⟩:=List.mem_map.1 hj
  rcases hH _ hm with hm|⟨c0,hm,_⟩
  ·exact List.mem_map.2 ⟨_,List.mem_append.2 (.inl hm),rfl⟩
  ·exact List.mem_map.2 ⟨(j',c0),List.mem_append.2 (.inr hm),rfl⟩
 have hwk : ∀ {l l':LV} {v:Value},Wk new l l'→RepL σ β' l v→RepL σ β' l' v:=fun {l l' v} hw hv=>by
  cases hw with
  | refl=>exact hv
  | of_eq he=>exact he▸hv
  | any=>exact .p (.any _)
  | p hs=>cases hv with
    | p hv=>exact .p (hs _ _ hv)
  | nil hm =>
    have hk:=h2 _ hm
    cases hv with
    | p hv=>rw [Rel.nils hv];exact .hdn _ hk
 refine ⟨σ,β',⟨h1.size,h1.defers,fun i=>hwk (hsl.get i) (h1.slots i),⟨h1.heap.mem,fun j c hc => ?_,hnd,fun j hj=>h1.heap.apart j (hlab j hj),fun j hj j' hj'=>h1.heap.inj j (hlab j hj) j' (hlab j' hj')⟩⟩,
  Mem.le_refl σ,Frm.refl _ _,fun _ h0 h1=>absurd h0 h1,fun b ⟨j,hj,r⟩ => .inl (h3 b ⟨j,hlab j hj,r⟩),h4⟩
 rcases hH _ hc with hm|⟨c0,hm,hw⟩
 ·exact h1.heap.chunks j c (List.mem_append.2 (.inl hm))
 ·have hold:=h1.heap.chunks j c0 (List.mem_append.2 (.inr hm))
  have hw:CWk new c0 c:=hw
  cases hw with
  | refl=>exact hold
  | of_eq he=>exact he▸hold
  | obj hs =>
    obtain ⟨i,vs,hi,hb,hn,hc'⟩:=hold
    obtain ⟨hlen,hget⟩:=hs.get
    refine ⟨i,vs,hi,hb,by omega,fun m l' hm' => ?_⟩
    obtain ⟨l,h5,h6⟩:=hget m l' hm'
    obtain ⟨u,h7,h8⟩:=hc' m l h5
    exact ⟨u,h7,hwk h6 h8⟩
inductive LSub:LV→LV→Prop
 | refl (l:LV):LSub l l
 | of_eq {l l':LV} (h:l=l'):LSub l l'
 | p {a b:AV} (h:Sub a b):LSub (.p a) (.p b)
theorem LSub.rep {l l':LV} (h:LSub l l') {σ:Mem} {β:Lab} {v:Value} (hr:RepL σ β l v):RepL σ β l' v:=by
 cases h with
 | refl=>exact hr
 | of_eq h=>exact h▸hr
 | p h=>cases hr with
   | p hr=>exact .p (h _ _ hr)
structure SpecH (P:Program) (f:FuncId) (args:List LV) (H:Heap) (R:LV→Heap→Prop):Prop where
 go : ∀ (vals:Array Value) (w:World),(callFunc f vals).run P w = .ok (.enter f vals) w
 ok : ∀ (σ:Mem) (β:Lab) (w:World) (vals:Array Value),vals.size=args.length→(∀ (j:Nat) (l:LV),args[j]? = some l→RepL σ β l (vals.getD j undef))→HRel σ β H w →
  Calls P f vals w fun e w' => ∃ l u σ' β' H',e = .returned u∧R l H'∧RepL σ' β' l u∧HRel σ' β' H' w'∧Later σ β H w σ' β' H' w'
inductive RetHK (H:Heap) (l:LV) (R:LV→Heap→Prop):Prop
 | mk (l':LV) (h:LSub l l') (hR:R l' H)
def w3n (T:Tab) (rs:Array ResultVar) (R:LV→Heap→Prop):Exit→St→Prop
 | .ret,s | .normal,s=>z1d T s rs.toList fun vs=>YV (q8s vs) fun l=>RetHK s.H l R
 | _,_=>False
def q4l:List LV→Nat→List (Nat×LV)
 | [],_=>[]
 | l::r,i=>(i,l)::q4l r (i+1)
theorem x2a : ∀ (args:List LV) (k i:Nat),getS (q4l args k) i=if k≤i then (args[i-k]?).getD (.p .any) else .p .any
 | [],k,i=>by simp [q4l,getS]
 | a::r,k,i=>by
   simp only [q4l,getS,q0b,x2a r]
   by_cases h:k=i
   ·subst h;simp
   ·rw [if_neg h]
    by_cases h1:k≤i
    ·rw [if_pos h1,if_pos (by omega)]
     rw [show i-k=(i-(k+1))+1 by omega]
     simp
    ·rw [if_neg h1,if_neg (by omega)]
theorem SpecH.body {P:Program} {T:Tab} (info:Info) (hT:TabOK P T) {f:FuncId} {fn:Func} {c:Code} (hf:P.funcs[f]? = some fn) (hb:fn.body=some c) (hgo : ∀ (vals:Array Value) (w:World),(callFunc f vals).run P w = .ok (.enter f vals) w)
  {args:List LV} {H:Heap} (hlen:args.length≤fn.ntmps) {R:LV→Heap→Prop} (h:W P T fn.ntmps info c (w3n T fn.results R) ⟨q4l args 0,H⟩):SpecH P f args H R:=by
 refine ⟨hgo,fun σ β w vals h1 h2 h3=>calls_of_wp hf hb ?_⟩
 have hrel:Rel fn.ntmps σ β ⟨q4l args 0,H⟩ { tmps:=vals++Array.replicate (fn.ntmps-vals.size) undef,defers:=[] } w:=by
  refine ⟨by simp;omega,rfl,fun i => ?_,h3⟩
  show RepL σ _ (getS (q4l args 0) i) _
  rw [x2a,if_pos (Nat.zero_le i)]
  cases hi:args[i-0]? with
  | none=>exact .p (.any _)
  | some c =>
    simp only [Nat.sub_zero] at hi
    have hlt:i<vals.size:=by rw [h1];exact (List.getElem?_eq_some_iff.1 hi).1
    have:=h2 i c hi
    have he:(vals++Array.replicate (fn.ntmps-vals.size) undef).getD i undef=vals.getD i undef:=by simp [Array.getElem?_append,hlt]
    show RepL σ _ c ((vals++Array.replicate (fn.ntmps-vals.size) undef).getD i undef)
    rw [he]
    exact this
 refine wp_mono ((JH hT c _ _ h).ok σ β _ w hrel) fun e a' w' ⟨σ',β',s',hK,hr',hl⟩ => ?_
 have fin:z1d T s' fn.results.toList (fun vs=>YV (q8s vs) fun l=>RetHK s'.H l R)→a'.defers=[] ∧ ∃ v,(results fn a'.tmps).run P w' = .ok v w' ∧ ∃ l u σ' β' H',Ending.returned v=Ending.returned u∧R l H'∧RepL σ' β' l u∧HRel σ' β' H' w'∧Later σ β H w σ' β' H' w':=fun hres=>by
  obtain ⟨ls,u,hR,hrep,hrun⟩:=z0d hT hr' hres
  rw [XG] at hR
  obtain ⟨l',hs,hR⟩:=hR
  exact ⟨hr'.defers,u,hrun,l',u,σ',β',s'.H,rfl,hR,hs.rep hrep,hr'.heap,hl⟩
 cases e with
 | normal=>exact fin hK
 | ret=>exact fin hK
 | _=>exact hK.elim
def lkp:List (Nat×Nat)→Nat→Option Nat
 | [],_=>none
 | (a,b)::r,k=>bif a==k then some b else lkp r k
theorem x3b : ∀ {l:List (Nat×Nat)} {a b:Nat},lkp l a=some b→(a,b)∈l
 | [],_,_,h=>by cases h
 | (x,y)::r,a,b,h=>by
   simp only [lkp] at h
   by_cases hx:x=a
   ·subst hx
    simp at h
    subst h
    exact List.mem_cons_self
   ·have:(x==a)=false:=by simp [hx]
    rw [this,cond_false] at h
    exact List.mem_cons_of_mem _ (x3b h)
theorem x6x : ∀ {l:List (Nat×Nat)} {a b:Nat},(l.map (·.1)).Nodup→(a,b)∈l→lkp l a=some b
 | [],_,_,_,h=>by cases h
 | (x,y)::r,a,b,hn,h=>by
   simp only [List.map_cons,List.nodup_cons] at hn
   simp only [lkp]
   rcases List.mem_cons.1 h with h|h
   ·cases h;simp
   ·have hx:x≠a:=fun e=>hn.1 (e▸List.mem_map.2 ⟨_,h,rfl⟩)
    have:(x==a)=false:=by simp [hx]
    rw [this,cond_false]
    exact x6x hn.2 h
def LV.ren (g:Nat→Option Nat):LV→LV
 | .p a => .p a
 | .ptr k o=>match g k with
   | some j => .ptr j o
   | none => .p .any
 | .hd k o n=>match g k with
   | some j => .hd j o n
   | none => .p .any
 | .agg ls => .agg (rens g ls)
 | .tup ls => .tup (rens g ls)
 | .ext k d=>match g k with
   | some j => .ext j d
   | none => .p .any
where rens (g:Nat→Option Nat):List LV→List LV
 | []=>[]
 | l::r=>LV.ren g l::rens g r
theorem x3c (g:Nat→Option Nat) : ∀ ls:List LV,LV.ren.rens g ls=ls.map (LV.ren g)
 | []=>rfl
 | l::r=>by rw [LV.ren.rens,x3c g r];rfl
theorem RepL.ren {σ:Mem} {β γ:Lab} {g:Nat→Option Nat} (hg : ∀ k j,g k=some j→γ j=β k) {l:LV} {v:Value} (h:RepL σ β l v):RepL σ γ (l.ren g) v:=by
 induction h with
 | p h=>exact .p h
 | ptr k off i hk =>
   unfold LV.ren
   cases hj:g k with
   | none=>exact .p (.any _)
   | some j=>exact .ptr j off i ((hg k j hj).trans hk)
 | hdn k hk =>
   unfold LV.ren
   cases hj:g k with
   | none=>exact .p (.any _)
   | some j=>exact .hdn j ((hg k j hj).trans hk)
 | hd k off len i o hk hl ho =>
   unfold LV.ren
   cases hj:g k with
   | none=>exact .p (.any _)
   | some j=>exact .hd j off len i o ((hg k j hj).trans hk) hl ho
 | ext k d i v hk hd =>
   unfold LV.ren
   cases hj:g k with
   | none=>exact .p (.any _)
   | some j=>exact .ext j d i v ((hg k j hj).trans hk) hd
 | agg ls vs u hn hc hrr ih =>
   unfold LV.ren
   rw [x3c]
   refine .agg _ vs u (by simpa using hn) (fun j l hj => ?_) fun j l hj => ?_
   all_goals
    rw [List.getElem?_map] at hj
    cases hq:ls[j]? with
    | none=>rw [hq] at hj;cases hj
    | some l' =>
      rw [hq] at hj;cases hj
      first
       | exact hc j l' hq
       | exact ih j l' hq
 | tup ls vs u hn hc hrr ih =>
   unfold LV.ren
   rw [x3c]
   refine .tup _ vs u (by simpa using hn) (fun j l hj => ?_) fun j l hj => ?_
   all_goals
    rw [List.getElem?_map] at hj
    cases hq:ls[j]? with
    | none=>rw [hq] at hj;cases hj
    | some l' =>
      rw [hq] at hj;cases hj
      first
       | exact hc j l' hq
       | exact ih j l' hq
def Chunk.ren (g:Nat→Option Nat):Chunk→Chunk
 | .obj e cs => .obj e (cs.map (LV.ren g))
 | .own e sz es => .own e sz es
 | .ext d => .ext d
theorem Chunk.holds.ren {σ:Mem} {β γ:Lab} {g:Nat→Option Nat} (hg : ∀ k j,g k=some j→γ j=β k) {c:Chunk} {w:World} {k j:Nat} (hj:g k=some j) (h:c.holds σ β w k):(c.ren g).holds σ γ w j:=by
 cases c with
 | obj e cs =>
   obtain ⟨i,vs,hi,hh,hn,hc⟩:=h
   refine ⟨i,vs,(hg k j hj).trans hi,hh,by simpa using hn,fun m l hm => ?_⟩
   rw [List.getElem?_map] at hm
   cases hq:cs[m]? with
   | none=>rw [hq] at hm;cases hm
   | some l' =>
     rw [hq] at hm;cases hm
     obtain ⟨u,h1,h2⟩:=hc m l' hq
     exact ⟨u,h1,h2.ren hg⟩
 | own e sz es =>
   rcases h with ⟨h1,h2⟩|⟨i,vs,hi,rest⟩
   ·exact .inl ⟨(hg k j hj).trans h1,h2⟩
   ·exact .inr ⟨i,vs,(hg k j hj).trans hi,rest⟩
 | ext d =>
   show d.holds σ (γ j) w
   rw [hg k j hj]
   exact h
theorem RepL.agree {σ τ:Mem} {β γ:Lab} (hle:σ.le τ) {l:LV} {v:Value} (h:RepL σ β l v) (hg : ∀ k,l.free k=false→γ k=β k):RepL τ γ l v:=by
 have aux : ∀ {ls:List LV} {k:Nat} {j:Nat} {l:LV},ls[j]? = some l→l.free k=false→LV.free.freeAll k ls=false:=fun {ls k j l} hj hl=>by
  cases h:LV.free.freeAll k ls with
  | false=>rfl
  | true =>
    have:=LV.freeAll_get h j l hj
    rw [hl] at this
    cases this
 induction h with
 | p h=>exact .p (h.mono hle)
 | ptr k off i hk=>exact .ptr k off i ((hg k (by simp [LV.free])).trans hk)
 | hdn k hk=>exact .hdn k ((hg k (by simp [LV.free])).trans hk)
 | hd k off len i o hk hl ho=>exact .hd k off len i o ((hg k (by simp [LV.free])).trans hk) hl ho
 | ext k d i v hk hd=>exact .ext k d i v ((hg k (by simp [LV.free])).trans hk) hd
 | agg ls vs u hn hc hrr ih=>exact .agg ls vs u hn hc fun j l hj=>ih j l hj fun k hk=>hg k (by simpa [LV.free] using aux hj hk)
 | tup ls vs u hn hc hrr ih=>exact .tup ls vs u hn hc fun j l hj=>ih j l hj fun k hk=>hg k (by simpa [LV.free] using aux hj hk)
def killAll:List Nat→LV→LV
 | [],l=>l
 | k::r,l=>killAll r (l.kill k)
theorem q1s : ∀ (ks:List Nat) (l:LV) (k:Nat),(killAll ks l).free k=false→l.free k=false∧k∉ks
 | [],_,_,h=>⟨h,by simp⟩
 | x::r,l,k,h=>by
   obtain ⟨h1,h2⟩:=q1s r (l.kill x) k h
   have h3:l.free k=false∧k≠x:=by
    unfold LV.kill at h1
    cases hf:l.free x with
    | false=>rw [hf] at h1;cases h1
    | true =>
      rw [hf,cond_true] at h1
      exact ⟨h1,fun e=>by subst e;rw [hf] at h1;cases h1⟩
   exact ⟨h3.1,by simp [h3.2,h2]⟩
theorem RepL.killAll {σ:Mem} {β:Lab} : ∀ (ks:List Nat) {l:LV} {v:Value},RepL σ β l v→RepL σ β (Ab.killAll ks l) v
 | [],_,_,h=>h
 | k::r,_,_,h=>RepL.killAll r (h.kill k)
inductive ArgsH (g:Nat→Option Nat):List LV→List LV→Prop
 | nil:ArgsH g [] []
 | cons {l l0:LV} {ls ls0:List LV} (h:LSub (l.ren g) l0) (hs:ArgsH g ls ls0):ArgsH g (l::ls) (l0::ls0)
theorem ArgsH.get {g:Nat→Option Nat} {ls ls0:List LV} (h:ArgsH g ls ls0):ls.length=ls0.length ∧ ∀ (j:Nat) (l0:LV),ls0[j]? = some l0 → ∃ l,ls[j]? = some l∧LSub (l.ren g) l0:=by
 induction h with
 | nil=>exact ⟨rfl,by simp⟩
 | cons h hs ih =>
   refine ⟨by simp [ih.1],fun j l0 hj => ?_⟩
   cases j with
   | zero=>simp at hj;subst hj;exact ⟨_,rfl,h⟩
   | succ j=>exact ih.2 j l0 (by simpa using hj)
def CSub (c c':Chunk):Prop := ∀ (σ:Mem) (β:Lab) (w:World) (k:Nat),c.holds σ β w k→c'.holds σ β w k
theorem CSub.refl (c:Chunk):CSub c c:=fun _ _ _ _ h=>h
theorem CSub.of_eq {c c':Chunk} (h:c=c'):CSub c c':=h▸CSub.refl c
inductive BlksH (g:Nat→Option Nat) (H:Heap):Heap→Prop
 | nil:BlksH g H []
 | cons {k j:Nat} {c c0:Chunk} {r:Heap} (hj:g j=some k) (hg:getH H j=some c) (h:CSub (c.ren g) c0) (hr:BlksH g H r):BlksH g H ((k,c0)::r)
theorem BlksH.get {g:Nat→Option Nat} {H H0:Heap} (h:BlksH g H H0) {k:Nat} {c0:Chunk} (hk:(k,c0)∈H0) : ∃ j c,g j=some k∧(j,c)∈H∧CSub (c.ren g) c0:=by
 induction h with
 | nil=>cases hk
 | cons hj hg h hr ih =>
   rcases List.mem_cons.1 hk with he|hk
   ·cases he;exact ⟨_,_,hj,QP hg,h⟩
   ·exact ih hk
def GR (H:Heap):List Nat:=H.map (·.1)
def q5m (ρ:List (Nat×Nat)) (off:Nat) (H':Heap) (k:Nat):Option Nat :=
 bif UF k (GR H') then match lkp ρ k with
  | some j=>some j
  | none=>some (k+off)
 else none
def q1c:List Nat→Bool
 | []=>true
 | k::r=>bif UF k r then false else q1c r
theorem YY : ∀ {l:List Nat},q1c l=true→l.Nodup
 | [],_=>List.nodup_nil
 | k::r,h=>by
   unfold q1c at h
   cases hm:UF k r with
   | true=>rw [hm] at h;cases h
   | false =>
     rw [hm,cond_false] at h
     refine List.nodup_cons.2 ⟨fun hk => ?_,YY h⟩
     rw [GP.2 hk] at hm
     cases hm
def WT (k:Nat):Bool:=Nat.ble 1000 k&&Nat.blt k 2000
def z9q (H':Heap) (ρ:List (Nat×Nat)):List Nat:=(ρ.filter fun x => !(WT x.1&&UF x.1 (GR H'))).map (·.2)
def z9l (ρ:List (Nat×Nat)):Bool:=q1c (ρ.map (·.1))&&q1c (ρ.map (·.2))&&ρ.all fun x=>WT x.1 || !WT x.2
def z1a (ρ:List (Nat×Nat)) (off:Nat) (s:St) (H':Heap):Bool :=
 q1c (GR H')&&q1c ((GR H').map fun k=>(q5m ρ off H' k).getD 0)&&(GR H').all fun k=>match lkp ρ k with
  | some _=>true
  | none=>VP (k+off) s
def x3z (f:LV→LV):List (Nat×LV)→(List (Nat×LV)→Prop)→Prop
 | [],K=>K []
 | (j,l)::r,K=>YV (f l) fun l=>x3z f r fun r=>K ((j,l)::r)
theorem KR {f:LV→LV} (hf:f (.p .any) = .p .any) : ∀ {sl:List (Nat×LV)} {K:List (Nat×LV)→Prop},x3z f sl K → ∃ sl',K sl' ∧ ∀ i,getS sl' i=f (getS sl i)
 | [],_,h=>⟨[],h,fun _=>hf.symm⟩
 | (j,l)::r,K,h=>by
   simp only [x3z,XG] at h
   obtain ⟨sl',hK,hs⟩:=KR hf h
   refine ⟨_,hK,fun i => ?_⟩
   simp only [getS]
   cases j==i
   ·exact hs i
   ·rfl
def Chunk.mapL (f:LV→LV):Chunk→Chunk
 | .obj e cs => .obj e (cs.map f)
 | .own e sz es => .own e sz es
 | .ext d => .ext d
def z3k (f:LV→LV) (c:Chunk) (K:Chunk→Prop):Prop :=
 match c with
 | .obj e cs=>FL (cs.map f) fun cs=>K (.obj e cs)
 | .own e sz es=>K (.own e sz es)
 | .ext d=>K (.ext d)
theorem q2m (f:LV→LV) (c:Chunk) (K:Chunk→Prop):z3k f c K=K (c.mapL f):=by cases c<;>simp only [z3k,Chunk.mapL,WJ]
def x1c (ρ2 ks:List Nat):Heap→(Heap→Prop)→Prop
 | [],K=>K []
 | (j,c)::r,K=>bif UF j ρ2 then x1c ρ2 ks r K else z3k (killAll ks) c fun c=>x1c ρ2 ks r fun r=>K ((j,c)::r)
theorem BI {ρ2 ks:List Nat} : ∀ {H:Heap} {K:Heap→Prop},x1c ρ2 ks H K → ∃ H',K H'∧(GR H').Sublist (GR H) ∧ ∀ j c',(j,c')∈H'→j∉ρ2 ∧ ∃ c,(j,c)∈H∧c'=c.mapL (killAll ks)
 | [],_,h=>⟨[],h,List.Sublist.refl _,by simp⟩
 | (j,c)::r,K,h=>by
   simp only [x1c,q2m] at h
   cases hm:UF j ρ2 with
   | true =>
     rw [hm,cond_true] at h
     obtain ⟨H',hK,h1,h2⟩:=BI h
     exact ⟨H',hK,h1.cons _,fun j' c' hj=>let ⟨h3,c0,h4,h5⟩:=h2 j' c' hj;⟨h3,c0,List.mem_cons_of_mem _ h4,h5⟩⟩
   | false =>
     rw [hm,cond_false] at h
     obtain ⟨H',hK,h1,h2⟩:=BI h
     refine ⟨_,hK,h1.cons_cons _,fun j' c' hj => ?_⟩
     rcases List.mem_cons.1 hj with he|hj
     ·cases he
      refine ⟨fun hj => ?_,c,List.mem_cons_self,rfl⟩
      rw [GP.2 hj] at hm
      cases hm
     ·obtain ⟨h3,c0,h4,h5⟩:=h2 j' c' hj
      exact ⟨h3,c0,List.mem_cons_of_mem _ h4,h5⟩
def z6y (g:Nat→Option Nat):Heap→Heap→(Heap→Prop)→Prop
 | [],F,K=>K F
 | (k,c)::r,F,K=>match g k with
   | none=>False
   | some j=>z3k (LV.ren g) c fun c=>z6y g r F fun r=>K ((j,c)::r)
theorem q7c {g:Nat→Option Nat} {F:Heap} : ∀ {H:Heap} {K:Heap→Prop},z6y g H F K → ∃ H',K (H'++F)∧GR H'=(GR H).map (fun k=>(g k).getD 0) ∧ ∀ j c',(j,c')∈H' → ∃ k c,g k=some j∧(k,c)∈H∧c'=c.ren g
 | [],_,h=>⟨[],h,rfl,by simp⟩
 | (k,c)::r,K,h=>by
   simp only [z6y,q2m] at h
   cases hj:g k with
   | none=>rw [hj] at h;exact h.elim
   | some j =>
     rw [hj] at h
     obtain ⟨H',hK,h1,h2⟩:=q7c h
     refine ⟨(j,c.mapL (LV.ren g))::H',hK,by simp only [GR,List.map_cons] at h1 ⊢;rw [h1];simp [hj],fun j' c' hm => ?_⟩
     rcases List.mem_cons.1 hm with he|hm
     ·cases he
      refine ⟨k,c,hj,List.mem_cons_self,?_⟩
      cases c<;>rfl
     ·obtain ⟨k',c0,h3,h4,h5⟩:=h2 j' c' hm
      exact ⟨k',c0,h3,List.mem_cons_of_mem _ h4,h5⟩
def z9i (ρ:List (Nat×Nat)) (off N:Nat) (dst:Option Nat) (s:St) (l:LV) (H':Heap) (K:St→Prop):Prop :=
 bif z1a ρ off s H' then
  x1c (ρ.map (·.2)) (z9q H' ρ) s.H fun F=>z6y (q5m ρ off H') H' F fun H2=>x3z (killAll (z9q H' ρ)) s.sl fun sl=>YV (l.ren (q5m ρ off H')) fun l=>setD N sl dst l fun sl=>K ⟨sl,H2⟩
 else False
theorem q4a : ∀ ks:List Nat,killAll ks (.p .any) = .p .any
 | []=>rfl
 | k::r=>by
   unfold killAll
   have:LV.kill k (.p .any) = .p .any:=rfl
   rw [this]
   exact q4a r
section
variable {P:Program} {N:Nat} {f:FuncId} {args args0:List LV} {dst:Option Nat} {s:St} {K:St→Prop} {H0:Heap} {R:LV→Heap→Prop}
theorem CallK.heap (ρ:List (Nat×Nat)) (off:Nat) (ha:ArgsH (lkp (ρ.map fun x=>(x.2,x.1))) args args0) (hH:BlksH (lkp (ρ.map fun x=>(x.2,x.1))) s.H H0)
  (hs:SpecH P f args0 H0 R) (hρ:z9l ρ=true) (hn0:q1c (GR H0)=true) (h : ∀ l H',R l H'→z9i ρ off N dst s l H' K):CallK P N f args dst s K:=by
 simp only [z9l,Bool.and_eq_true] at hρ
 obtain ⟨⟨hρ1,hρ2⟩,hρ3⟩:=hρ
 have hρ1:=YY hρ1
 have hρ2:=YY hρ2
 have hin : ∀ {j k:Nat},lkp (ρ.map fun x=>(x.2,x.1)) j=some k→(k,j)∈ρ:=fun {j k} hj=>by
  obtain ⟨⟨a,b⟩,h1,h2⟩:=List.mem_map.1 (x3b hj)
  cases h2
  exact h1
 refine ⟨fun σ β a w hr vals hn hv=>⟨hs.go vals,?_⟩⟩
 let βc:Lab:=fun k=>match lkp ρ k with
  | some j=>β j
  | none=>none
 have hβ : ∀ {k j:Nat},(k,j)∈ρ→βc k=β j:=fun {k j} hm=>by
  show (match lkp ρ k with
   | some j=>β j
   | none=>none)=β j
  rw [x6x hρ1 hm]
 have hgc : ∀ j k,lkp (ρ.map fun x=>(x.2,x.1)) j=some k→βc k=β j:=fun j k hj=>hβ (hin hj)
 have hc0 : ∀ k c0,(k,c0)∈H0 → ∃ j c,(k,j)∈ρ∧(j,c)∈s.H∧c0.holds σ βc w k:=fun k c0 hk=>by
  obtain ⟨j,c,h1,h2,h3⟩:=hH.get hk
  exact ⟨j,c,hin h1,h2,h3 _ _ _ _ ((hr.heap.chunks j c h2).ren hgc h1)⟩
 have hl0 : ∀ k∈GR H0,∃ j,(k,j)∈ρ∧j∈s.H.map (·.1):=fun k hk=>by
  obtain ⟨⟨k',c0⟩,hm,rfl⟩:=List.mem_map.1 hk
  obtain ⟨j,c,h1,h2,_⟩:=hc0 k' c0 hm
  exact ⟨j,h1,List.mem_map.2 ⟨_,h2,rfl⟩⟩
 have hrel0:HRel σ βc H0 w:=by
  refine ⟨hr.heap.mem,fun k c0 hk=>let ⟨_,_,_,_,h3⟩:=hc0 k c0 hk;h3,YY hn0,fun k hk i hi b hb => ?_,fun k hk k' hk' i i' hi hi' b hb hb' => ?_⟩
  ·obtain ⟨j,h1,h2⟩:=hl0 k hk
   rw [hβ h1] at hi
   exact hr.heap.apart j h2 i hi b hb
  ·obtain ⟨j,h1,h2⟩:=hl0 k hk
   obtain ⟨j',h1',h2'⟩:=hl0 k' hk'
   rw [hβ h1] at hi
   rw [hβ h1'] at hi'
   have:=hr.heap.inj j h2 j' h2' i i' hi hi' b hb hb'
   subst this
   have e1:lkp (ρ.map fun x=>(x.2,x.1)) j=some k:=x6x (by simpa [Function.comp_def] using hρ2) (List.mem_map.2 ⟨_,h1,rfl⟩)
   have e2:lkp (ρ.map fun x=>(x.2,x.1)) j=some k':=x6x (by simpa [Function.comp_def] using hρ2) (List.mem_map.2 ⟨_,h1',rfl⟩)
   rw [e1] at e2
   cases e2
   rfl
 obtain ⟨hlen,hget⟩:=ha.get
 refine (hs.ok σ βc w vals (hn.trans hlen) (fun j l0 hj => ?_) hrel0).mono fun e w' ⟨l,u,σ',β',H',he,hR,hrep,hrel',hlat⟩ => ?_
 ·obtain ⟨l1,h1,h2⟩:=hget j l0 hj
  exact h2.rep ((hv j l1 h1).ren hgc)
 have hback:=h l H' hR
 unfold z9i at hback
 cases hok:z1a ρ off s H' with
 | false=>rw [hok] at hback;exact hback.elim
 | true =>
   rw [hok,cond_true] at hback
   simp only [z1a,Bool.and_eq_true,List.all_eq_true] at hok
   obtain ⟨⟨_,hnd2⟩,hnew⟩:=hok
   have hnd2:=YY hnd2
   obtain ⟨F,hback,hF1,hF2⟩:=BI hback
   obtain ⟨H2,hback,hH1,hH2⟩:=q7c hback
   obtain ⟨sl,hback,hsl⟩:=KR (q4a _) hback
   rw [XG] at hback
   have hg : ∀ {k j:Nat},q5m ρ off H' k=some j→k∈GR H'∧((k,j)∈ρ∨(j=k+off∧VP j s=true)):=fun {k j} hk=>by
    unfold q5m at hk
    cases hm:UF k (GR H') with
    | false=>rw [hm] at hk;cases hk
    | true =>
      rw [hm,cond_true] at hk
      have hkm:=GP.1 hm
      refine ⟨hkm,?_⟩
      have:=hnew k hkm
      cases hl:lkp ρ k with
      | some j' =>
        rw [hl] at hk
        cases hk
        exact .inl (x3b hl)
      | none =>
        rw [hl] at hk this
        cases hk
        exact .inr ⟨rfl,this⟩
   have hginj : ∀ {k k' j:Nat},q5m ρ off H' k=some j→q5m ρ off H' k'=some j→k=k':=fun {k k' j} h1 h2=>by
    have m1:=(hg h1).1
    have m2:=(hg h2).1
    obtain ⟨x,hx⟩:=List.mem_iff_getElem?.1 m1
    obtain ⟨y,hy⟩:=List.mem_iff_getElem?.1 m2
    have hx':((GR H').map fun k=>(q5m ρ off H' k).getD 0)[x]? = some j:=by simp [hx,h1]
    have hy':((GR H').map fun k=>(q5m ρ off H' k).getD 0)[y]? = some j:=by simp [hy,h2]
    have hlt:x<((GR H').map fun k=>(q5m ρ off H' k).getD 0).length:=(List.getElem?_eq_some_iff.1 hx').1
    have hxy:=(List.getElem?_inj hlt hnd2).1 (hx'.trans hy'.symm)
    subst hxy
    rw [hx] at hy
    cases hy
    rfl
   let βn:Lab:=fun j=>match (GR H').find? (fun k=>q5m ρ off H' k==some j) with
    | some k=>β' k
    | none=>β j
   have hβ1 : ∀ k j,q5m ρ off H' k=some j→βn j=β' k:=fun k j hk=>by
    show (match (GR H').find? (fun k=>q5m ρ off H' k==some j) with
     | some k=>β' k
     | none=>β j)=β' k
    cases hf:(GR H').find? (fun k=>q5m ρ off H' k==some j) with
    | none =>
      have:=List.find?_eq_none.1 hf k (hg hk).1
      simp [hk] at this
    | some k' =>
      have:=List.find?_some hf
      simp only [beq_iff_eq] at this
      rw [hginj hk this]
   have hβ2 : ∀ j,(∀ k,q5m ρ off H' k≠some j)→βn j=β j:=fun j hj=>by
    show (match (GR H').find? (fun k=>q5m ρ off H' k==some j) with
     | some k=>β' k
     | none=>β j)=β j
    cases hf:(GR H').find? (fun k=>q5m ρ off H' k==some j) with
    | none=>rfl
    | some k' =>
      have:=List.find?_some hf
      simp only [beq_iff_eq] at this
      exact absurd this (hj k')
   have hown0 : ∀ b,owns βc H0 b→owns β s.H b:=by
    rintro b ⟨k,hk,i,hi,hb⟩
    obtain ⟨j,h1,h2⟩:=hl0 k hk
    exact ⟨j,h2,i,(hβ h1)▸hi,hb⟩
   have hkeep : ∀ j,(j∉z9q H' ρ)→(∀ k,q5m ρ off H' k=some j→(k,j)∈ρ)→βn j=β j:=fun j hj hj'=>by
    by_cases hex : ∃ k,q5m ρ off H' k=some j
    ·obtain ⟨k,hk⟩:=hex
     have hm:=hj' k hk
     have hp:WT k=true:=by
      cases hp:WT k with
      | true=>rfl
      | false =>
        exact absurd (List.mem_map.2 ⟨(k,j),List.mem_filter.2 ⟨hm,by simp [hp]⟩,rfl⟩) hj
     simp only [WT,Bool.and_eq_true,Nat.ble_eq,Nat.blt] at hp
     rw [hβ1 k j hk,hlat.pin k hp.1 (by omega),hβ hm]
    ·exact hβ2 j fun k hk=>hex ⟨k,hk⟩
   have husable : ∀ {k j:Nat},q5m ρ off H' k=some j→(∀ c,(j,c)∉s.H)∨(k,j)∈ρ:=fun {k j} hk=>by
    rcases (hg hk).2 with h1|⟨_,h1⟩
    ·exact .inr h1
    ·exact .inl fun c hc=>((ZY h1).1 j c hc).1 rfl
   have hrepC : ∀ {l:LV} {v:Value},RepL σ β l v→(∀ k,VP k s=true→l.free k=true)→RepL σ' βn (killAll (z9q H' ρ) l) v:=fun {l v} hl hfr=>by
    refine (hl.killAll (z9q H' ρ)).agree hlat.le fun k hk => ?_
    obtain ⟨h1,h2⟩:=q1s _ _ _ hk
    refine hkeep k h2 fun k' hk' => ?_
    rcases (hg hk').2 with h3|⟨_,h3⟩
    ·exact h3
    ·rw [hfr k h3] at h1;cases h1
   have hslot : ∀ i,RepL σ' βn (getS sl i) (a.tmps.getD i undef):=fun i=>by
    rw [hsl]
    exact hrepC (hr.slots i) fun k hk=>(ZY hk).2 i
   have hfrm : ∀ b,b<w.heap.size → ¬owns βc H0 b→w'.heap[b]? = w.heap[b]? := hlat.frm.block
   have hfno : ∀ j∈s.H.map (·.1),j∉ρ.map (·.2) → ∀ i,β j=some i → ∀ b,i.has b → ¬owns βc H0 b:=fun j hj hjr i hi b hib=>by
    rintro ⟨k,hk,i0,hi0,hb⟩
    obtain ⟨j0,h1,h2⟩:=hl0 k hk
    rw [hβ h1] at hi0
    have:=hr.heap.inj j0 h2 j hj i0 i hi0 hi b hb hib
    subst this
    exact hjr (List.mem_map.2 ⟨_,h1,rfl⟩)
   have hFlab : ∀ j∈GR F,j∉ρ.map (·.2)∧j∈s.H.map (·.1):=fun j hj=>by
    obtain ⟨⟨j',c'⟩,hm,rfl⟩:=List.mem_map.1 hj
    obtain ⟨h1,c,h2,_⟩:=hF2 j' c' hm
    exact ⟨h1,List.mem_map.2 ⟨_,h2,rfl⟩⟩
   have hFβ : ∀ j∈GR F,βn j=β j:=fun j hj=>by
    obtain ⟨h1,h2⟩:=hFlab j hj
    refine hβ2 j fun k hk => ?_
    rcases husable hk with h3|h3
    ·obtain ⟨⟨j',c⟩,hm,rfl⟩:=List.mem_map.1 h2
     exact h3 c hm
    ·exact h1 (List.mem_map.2 ⟨_,h3,rfl⟩)
   have hHlab : ∀ j∈GR H2,∃ k,q5m ρ off H' k=some j∧k∈H'.map (·.1):=fun j hj=>by
    obtain ⟨⟨j',c'⟩,hm,rfl⟩:=List.mem_map.1 hj
    obtain ⟨k,c,h1,h2,_⟩:=hH2 j' c' hm
    exact ⟨k,h1,List.mem_map.2 ⟨_,h2,rfl⟩⟩
   have hdisj : ∀ j∈GR H2,j∉GR F:=fun j hj hjF=>by
    obtain ⟨k,hk,_⟩:=hHlab j hj
    obtain ⟨h1,h2⟩:=hFlab j hjF
    rcases husable hk with h3|h3
    ·obtain ⟨⟨j',c⟩,hm,rfl⟩:=List.mem_map.1 h2
     exact h3 c hm
    ·exact h1 (List.mem_map.2 ⟨_,h3,rfl⟩)
   have hcase : ∀ j∈(H2++F).map (·.1),j∈GR H2∨j∈GR F:=fun j hj=>by
    rw [List.map_append,List.mem_append] at hj
    exact hj
   have hheap:HRel σ' βn (H2++F) w':=by
    refine ⟨hrel'.mem,fun j c hj => ?_,?_,fun j hj i hi b hb => ?_,fun j hj j' hj' i i' hi hi' b hb hb' => ?_⟩
    ·rcases List.mem_append.1 hj with hj|hj
     ·obtain ⟨k,c0,h1,h2,rfl⟩:=hH2 j c hj
      exact (hrel'.chunks k c0 h2).ren hβ1 h1
     ·have hjl:j∈GR F:=List.mem_map.2 ⟨_,hj,rfl⟩
      obtain ⟨h1,c0,h2,rfl⟩:=hF2 j c hj
      have hjs:j∈s.H.map (·.1):=List.mem_map.2 ⟨_,h2,rfl⟩
      have hh:=hr.heap.chunks j c0 h2
      have hw : ∀ i,β j=some i → ∀ b,i.has b→w'.heap[b]? = w.heap[b]? := fun i hi b hb=>hfrm _ (hr.heap.apart j hjs i hi b hb).2 (hfno j hjs h1 i hi b hb)
      cases c0 with
      | obj e cs =>
        obtain ⟨i,vs,hi,hb,hn,hc⟩:=hh
        refine ⟨i,vs,(hFβ j hjl).trans hi,(hw i hi _ i.has_blk).trans hb,by simpa using hn,fun m l hm => ?_⟩
        rw [List.getElem?_map] at hm
        cases hq:cs[m]? with
        | none=>rw [hq] at hm;cases hm
        | some l' =>
          rw [hq] at hm;cases hm
          obtain ⟨u,h3,h4⟩:=hc m l' hq
          refine ⟨u,h3,hrepC h4 fun k hk => ?_⟩
          exact LV.freeAll_get ((ZY hk).1 j _ h2).2 m l' hq
      | own e sz es =>
        rcases hh with ⟨h3,h4⟩|⟨i,vs,hi,h3,hb,h4,h5,h6,h7⟩
        ·exact .inl ⟨(hFβ j hjl).trans h3,h4⟩
        ·exact .inr ⟨i,vs,(hFβ j hjl).trans hi,h3,(hw i hi _ i.has_blk).trans hb,h4,h5,h6,fun m x hx=>⟨(h7 m x hx).1,fun j c hj=>let ⟨u,h8,h9⟩:=(h7 m x hx).2 j c hj;⟨u,h8,h9.mono hlat.le⟩⟩⟩
      | ext d =>
        show d.holds σ' (βn j) w'
        rw [hFβ j hjl]
        exact XC.holds.mono (d:=d) hh hlat.le hw
    ·rw [List.map_append]
     refine List.nodup_append.2 ⟨?_,hF1.nodup hr.heap.nodup,fun j hj j' hj' he=>hdisj j hj (he▸hj')⟩
     show (GR H2).Nodup
     rw [hH1]
     exact hnd2
    ·rcases hcase j hj with hj|hj
     ·obtain ⟨k,hk,hkm⟩:=hHlab j hj
      rw [hβ1 k j hk] at hi
      exact hrel'.apart k hkm i hi b hb
     ·obtain ⟨h1,h2⟩:=hFlab j hj
      rw [hFβ j hj] at hi
      have h3:=hr.heap.apart j h2 i hi b hb
      refine ⟨?_,Nat.lt_of_lt_of_le h3.2 hlat.frm.size⟩
      cases hs:σ' b with
      | none=>rfl
      | some c =>
        rcases hlat.mem b h3.1 (by simp [hs]) with h4|h4
        ·exact absurd h4 (hfno j h2 h1 i hi b hb)
        ·omega
    ·have mixed : ∀ {j j':Nat} {i i':BInfo},j∈GR H2→j'∈GR F→βn j=some i→βn j'=some i' → ∀ b,i.has b → ¬i'.has b:=fun {j j' i i'} hj hj' hi hi' b hb hb'=>by
      obtain ⟨k,hk,hkm⟩:=hHlab j hj
      obtain ⟨h1,h2⟩:=hFlab j' hj'
      rw [hβ1 k j hk] at hi
      rw [hFβ j' hj'] at hi'
      rcases hlat.own b ⟨k,hkm,i,hi,hb⟩ with h3|h3
      ·exact hfno j' h2 h1 i' hi' b hb' h3
      ·have:=(hr.heap.apart j' h2 i' hi' b hb').2
       omega
     rcases hcase j hj with hj|hj<;>rcases hcase j' hj' with hj'|hj'
     ·obtain ⟨k,hk,hkm⟩:=hHlab j hj
      obtain ⟨k',hk',hkm'⟩:=hHlab j' hj'
      rw [hβ1 k j hk] at hi
      rw [hβ1 k' j' hk'] at hi'
      have:=hrel'.inj k hkm k' hkm' i i' hi hi' b hb hb'
      subst this
      rw [hk] at hk'
      cases hk'
      rfl
     ·exact absurd hb' (mixed hj hj' hi hi' b hb)
     ·exact absurd hb (mixed hj' hj hi' hi b hb')
     ·rw [hFβ j hj] at hi
      rw [hFβ j' hj'] at hi'
      exact hr.heap.inj j (hFlab j hj).2 j' (hFlab j' hj').2 i i' hi hi' b hb hb'
   have hrelN:Rel N σ' βn ⟨sl,H2++F⟩ a w':=⟨hr.size,hr.defers,hslot,hheap⟩
   obtain ⟨sl',hK,hr''⟩:=hrelN.setD (hrep.ren hβ1) hback
   refine ⟨u,σ',βn,_,he,hK,hr'',hlat.le,⟨hlat.frm.os,hlat.frm.tape,hlat.frm.output,hlat.frm.drawn,hlat.frm.size,fun b hb hnb=>hlat.frm.block b hb fun ho=>hnb (hown0 b ho)⟩,fun b h0 h1=>(hlat.mem b h0 h1).imp (hown0 b) id,fun b hb => ?_,fun j h0 h1 => ?_⟩
   ·obtain ⟨j,hj,i,hi,hb⟩:=hb
    rcases hcase j hj with hj|hj
    ·obtain ⟨k,hk,hkm⟩:=hHlab j hj
     rw [hβ1 k j hk] at hi
     exact (hlat.own b ⟨k,hkm,i,hi,hb⟩).imp (hown0 b) id
    ·rw [hFβ j hj] at hi
     exact .inl ⟨j,(hFlab j hj).2,i,hi,hb⟩
   ·by_cases hex : ∃ k,q5m ρ off H' k=some j
    ·obtain ⟨k,hk⟩:=hex
     rcases (hg hk).2 with h3|⟨_,h3⟩
     ·have h4:=List.all_eq_true.1 hρ3 (k,j) h3
      have hpj:WT j=true:=by simp only [WT,Bool.and_eq_true,Nat.ble_eq,Nat.blt];omega
      replace h4:WT k=true:=by simpa [hpj] using h4
      simp only [WT,Bool.and_eq_true,Nat.ble_eq,Nat.blt] at h4
      rw [hβ1 k j hk,hlat.pin k h4.1 (by omega),hβ h3]
     ·have:=JA h3
      omega
    ·exact hβ2 j fun k hk=>hex ⟨k,hk⟩
end
end Go.Ab
