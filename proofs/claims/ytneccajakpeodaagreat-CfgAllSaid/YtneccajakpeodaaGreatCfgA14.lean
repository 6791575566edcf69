/- cfg: which procedures can come to their end. -/
import Derived.Test.YtneccajakpeodaaGreatCfgA10
import Derived.Test.YtneccajakpeodaaGreatCfgA13
set_option linter.unusedSimpArgs false
set_option linter.unusedVariables false
set_option maxRecDepth 100000
set_option maxHeartbeats 16000000
namespace Go.Ab
open Go.Proofs
theorem HA (l:List Int) (v:Int):SpecP Tryz.prog 213 [ZQ l,.int .i64 v] (fun r=>r = .int .i64 (q5a (fun s=>decide (v=s)) l)):=by
 refine SpecP.body GX QQ Tryz.func213 rfl Tryz.call213 (by show 2≤_;decide) ?_
 conv=>whnf
 intro (_:_≤9223372036854775807)
 have hl:(l.map (AV.int .i64)).length=l.length:=List.length_map _
 conv=>whnf
 refine LoopK.inv QQ (fun j:Nat=>⟨[(0,.p (ZQ l)),(1,.p (.int .i64 v)),(7,.p (.int .i64 (l.map (AV.int .i64)).length)),(8,.p (.int .i64 j))],[]⟩) (fun j=>j≤l.length∧(l.drop j).any (fun s=>decide (v=s))=l.any (fun s=>decide (v=s))∧l.findIdx (fun s=>decide (v=s))=j+(l.drop j).findIdx (fun s=>decide (v=s))) (fun j=>l.length-j) 0 (Le.of_eq rfl) ⟨Nat.zero_le _,rfl,by simp⟩ ?_
 rintro j ⟨h2,h3,h4⟩
 conv=>whnf
 repeat' (first|((first|refine IdxK.map (by omega) (fun _=>rfl) ?_|refine Wr.i64 (by omega) (by omega) ?_);conv=>whnf)|(refine Br.dec (fun _=>?_) (fun _=>?_)<;>first|(exfalso;omega)|conv=>whnf))
 ·exact RetK.int (q2n (p:=fun s=>decide (v=s)) (by omega) (decide_eq_true (by assumption)) h3 h4).symm
 ·exact ⟨j+1,⟨by omega,by rw [← h3,LW (p:=fun s=>decide (v=s)) (by omega) (decide_eq_false (by assumption))],by rw [h4,z4c (p:=fun s=>decide (v=s)) (by omega) (decide_eq_false (by assumption))];omega⟩,by omega,Le.of_eq rfl⟩
 ·exact RetK.int (by rw [q9f];rw [← h3,GW (by omega)])
theorem JT (l:List Int) (v:Int):SpecP Tryz.prog 152 [ZQ l,.int .i64 v] (fun r=>r = .bool (l.any fun s=>decide (v=s))):=by
 refine SpecP.body YC QQ Tryz.func152 rfl Tryz.call152 (by show 2≤_;decide) ?_
 conv=>whnf
 repeat' (refine CallK.pure (HA _ _) (by repeat' (first|exact ArgP.nil|refine ArgP.cons ?_ ?_|exact Sub.refl _|exact Sub.tt rfl|exact Sub.ff rfl)) ?_;rintro _ rfl;conv=>whnf)
 exact RetK.bool q1x
theorem DrawK.le {P:Program} {T:Tab} {N:Nat} {ops:Array Oper} {info:Info} {id:Nat} {K:St→Prop} {s s':St} (hle:Le N s s') (h:DrawK P T N info id ops K s'):DrawK P T N info id ops K s:=by
 refine ⟨⟨fun σ β a w hr => ?_⟩⟩
 obtain ⟨σ1,β1,hr1,hl1⟩:=hle σ β a w hr
 refine Code.wp_mono (fun e a' w' hk => ?_) (h.ok.ok σ1 β1 a w hr1)
 obtain ⟨σ',β',s2,hk,hr',hl⟩:=hk
 exact ⟨σ',β',s2,hk,hr',hl1.trans hl⟩
theorem FJ : ∀ (a:Step) (l:List Step) (s:Step),s∈QC a l→s∈l
 | _,[],_,h=>by rw [QC] at h;cases h
 | a,b::r,s,h=>by
   rw [QC] at h
   cases hb:XI b a with
   | true=>rw [hb] at h;exact List.mem_cons_of_mem _ (FJ b r s h)
   | false =>
     rw [hb] at h
     rcases List.mem_cons.1 h with rfl|h
     ·exact List.mem_cons_self
     ·exact List.mem_cons_of_mem _ (FJ b r s h)
theorem z1e {l:List Step} {s:Step} (h:s∈ZD l):s∈l:=by
 unfold ZD at h
 have:s∈VL l:=by
  cases hq:VL l with
  | nil=>rw [hq] at h;cases h
  | cons a r =>
    rw [hq] at h
    rcases List.mem_cons.1 h with rfl|h
    ·exact List.mem_cons_self
    ·exact List.mem_cons_of_mem _ (FJ a r s h)
 exact (NJ l).mem_iff.1 this
def z8i (p:Pg) (id:Int):Option S:=((QX p).l[(id-1).toNat]?).map Item.s
def q2k (p:Pg) (some':List Str) (t:Step):Bool:=decide (t.src=0)||match z8i p t.src with
 | some s => !(decide (s.kind=4) && !(some'.any fun x=>s.proc==x))
 | none=>true
def HN (w:Way) (f:Pr) (some':List Str):Bool :=
 (q0z 0 (YQ (XJ (QY f.body+2) ((w.real.filter (q2k w.p some')).map (ixP w.p w.j f w.n))).1 [0])).any fun s=>decide (w.n-1=s)
theorem x0l (w:Way) (f:Pr) (hj:w.p.procs[w.j]? = some f) (hc:WA w.p.procs≤200) (hn:w.n=(QY f.body+2:Nat)) (hr : ∀ t∈w.real,t.src=0∨(1≤t.src∧t.src≤(QX w.p).l.length)) (hlen:w.real.length≤100000) (some':List Str):SpecP Tryz.prog 95 [.ip w.cells,QH some'] (fun r=>r = .bool (HN w f some')):=by
 refine SpecP.body q6v QQ Tryz.func95 rfl Tryz.call95 (by show 2≤_;decide) ?_
 conv=>whnf
 obtain ⟨_,_,_,hsl,hsp⟩:=QG w.p
 obtain ⟨_,_,hle,_⟩:=hsp w.j f hj
 have hl:(w.real.map fun s=>AV.agg s.cells).length=w.real.length:=List.length_map _
 repeat' (intro (_:_≤9223372036854775807);conv=>whnf)
 refine LoopK.inv QQ (fun x:Nat×List Step=>⟨[(0,.p (.ip w.cells)),(1,.p (QH some')),(5,.hd 0 0 x.2.length),(12,.p (QO w.real)),(13,.p (.int .i64 (w.real.map fun s=>AV.agg s.cells).length)),(14,.p (.int .i64 x.1))],[(0,.own 79 3 (avS x.2))]⟩)
  (fun x=>x.1≤w.real.length∧x.2.length≤x.1∧x.2++(w.real.drop x.1).filter (q2k w.p some')=w.real.filter (q2k w.p some')) (fun x=>w.real.length-x.1) (0,[])
  (Le.mk [(0,.own 79 3 [])] (by simp [Chunk.new0];rfl) (by simp) (by simp) (.cons (.refl _) (.cons (.refl _) (.cons (.nil List.mem_cons_self) (.cons (.refl _) (.cons (.refl _) (.cons (.refl _) .nil)))))) (.new List.mem_cons_self .nil))
  ⟨Nat.zero_le _,Nat.le_refl _,rfl⟩ ?_
 rintro ⟨i,acc⟩ ⟨h2,h3,h4⟩
 simp only at h2 h3 h4 ⊢
 rcases Nat.lt_or_ge i w.real.length with hi|hi
 rotate_left 1
 ·rw [List.drop_eq_nil_of_le hi,List.filter_nil,List.append_nil] at h4
  unfold HN
  rw [← h4]
  conv=>whnf
  repeat' (refine Br.dec (fun _=>?_) (fun _=>?_)<;>first|(exfalso;omega)|conv=>whnf)
  have hacl:acc.length≤1000000:=by omega
  refine DrawK.le (s':=⟨[(0,.p (.ip w.cells)),(5,.p (QO acc))],[]⟩) ?_ ?_
  ·obtain ⟨s',⟨k1,k2,k3⟩,hle⟩:=Le.row (N:=Tryz.f95.ntmps) (s:=⟨[(0,.p (.ip w.cells)),(1,.p (QH some')),(5,.hd 0 0 acc.length),(12,.p (QO w.real)),(13,.p (.int .i64 (w.real.map fun s=>AV.agg s.cells).length)),(14,.p (.int .i64 i)),(15,.p (.bool (decide ((i:Int)<(w.real.map fun s=>AV.agg s.cells).length))))],[(0,.own 79 3 (avS acc))]⟩) (k:=0) (set:=[5]) rfl (K:=fun s=>getS s.sl 0 = .p (.ip w.cells)∧getS s.sl 5 = .p (QO acc)∧s.H=[]) ⟨by simp [avS],rfl,rfl,rfl⟩
   exact hle.trans (Le.mk [] (by simp) (by simp) (by simp) (.cons (by rw [k1];exact .refl _) (.cons (by rw [k2];exact .refl _) .nil)) .nil)
  have hgi:=q3k (QY f.body+2) (acc.map (ixP w.p w.j f w.n))
  repeat' (first|((first|(refine CallK.pure (JT _ _) (by repeat' (first|exact ArgP.nil|refine ArgP.cons ?_ ?_|exact Sub.refl _|exact Sub.tt rfl|exact Sub.ff rfl)) ?_;rintro _ rfl)|refine DrawK.auto QQ mixed (by kernel_rfl) ?_|refine And.intro rfl ?_|(refine And.intro ⟨by decide,by decide⟩ ?_)|refine BsK.pure (fun x hx=>by rcases List.mem_singleton.1 hx with rfl;rfl) rfl ?_|refine Wr.i64 (by omega) (by omega) ?_|(refine CallK.pure (q9m w f (QY f.body+2) hn hj (by omega) (by omega) acc hacl) (.cons (Sub.refl _) (.cons (Sub.refl _) .nil)) ?_;rintro _ rfl)|(refine CallK.pure (JS (QY f.body+2) (by omega) _ hgi.1 [0] (by simp)) (.cons (Sub.refl _) (.cons (Sub.refl _) .nil)) ?_;rintro _ rfl));conv=>whnf)|(refine And.intro ?_ ?_<;>conv=>whnf))
  all_goals exact RetK.bool rfl
 rw [List.drop_eq_getElem_cons hi,List.filter_cons] at h4
 have hsrc:=hr _ (List.getElem_mem hi)
 conv=>whnf
 have hidx : ¬w.real[i].src=0 → ∃ u:Item,((QX w.p).l.map fun i=>AV.agg i.cells)[(w.real[i].src-1).toNat]? = some (.agg u.cells)∧z8i w.p w.real[i].src=some u.s:=fun h=>by
  have hlt:(w.real[i].src-1).toNat<(QX w.p).l.length:=by omega
  exact ⟨_,by rw [List.getElem?_map,List.getElem?_eq_getElem hlt];rfl,by unfold z8i;rw [List.getElem?_eq_getElem hlt];rfl⟩
 repeat' (first|((first|(refine CallK.pure (QZ _ _) (by repeat' (first|exact ArgP.nil|refine ArgP.cons ?_ ?_|exact Sub.refl _|exact Sub.tt rfl|exact Sub.ff rfl)) ?_;rintro _ rfl)|refine DrawK.auto QQ mixed (by kernel_rfl) ?_|refine And.intro rfl ?_|(refine And.intro ⟨by decide,by decide⟩ ?_)|refine BsK.pure (fun x hx=>by rcases List.mem_singleton.1 hx with rfl;rfl) rfl ?_|refine IdxK.map (by omega) (fun _=>rfl) ?_|refine Wr.i64 (by omega) (by omega) ?_|refine AppK.mk (by simp [avS]) rfl (by show (acc.length+1)*24≤140737488355328;omega) (by show acc.length+1≤9223372036854775807;omega) (fun x hx=>by rcases List.mem_singleton.1 hx with rfl;exact ⟨rfl,rfl⟩) ?_|(obtain ⟨u,hu1,hu2⟩:=hidx (by assumption);refine IdxK.at (by omega) hu1 rfl ?_));conv=>whnf)|(refine Br.dec (fun _=>?_) (fun _=>?_)<;>first|(exfalso;omega)|conv=>whnf)|(refine Br.dec2 (fun _=>?_) (fun _=>?_)<;>first|(exfalso;omega)|conv=>whnf)|(refine Br.n (fun _=>?_) (fun _=>?_)<;>conv=>whnf))
 all_goals first
  | exact ⟨(i+1,acc++[w.real[i]]),⟨by simp only;omega,by simp;omega,by
     have hk:q2k w.p some' w.real[i]=true:=by unfold q2k;simp [*];done
     rw [if_pos hk] at h4
     simpa using h4⟩,by simp only;omega,Le.of_eq (by simp only [avS,List.length_append,List.map_append];rfl)⟩
  | exact ⟨(i+1,acc),⟨by simp only;omega,by simp only;omega,by
     have hk : ¬q2k w.p some' w.real[i]=true:=by unfold q2k;simp [*];done
     rw [if_neg hk] at h4
     exact h4⟩,by simp only;omega,Le.of_eq rfl⟩
open Go.Proofs
def x3o (p:Pg) (st:List Str×Bool) (k:Nat):List Str×Bool:=match p.procs[k]? with
 | some f=>bif !(st.1.any fun s=>f.name==s)&&HN (QF p k f) f st.1 then (st.1++[f.name],true) else st
 | none=>st
def q1l (p:Pg) (out:List Str):List Str×Bool:=(List.range p.procs.length).foldl (x3o p) (out,false)
def FP (p:Pg):Nat→List Str→List Str
 | 0,out=>out
 | k+1,out=>bif (q1l p out).2 then FP p k (q1l p out).1 else (q1l p out).1
def YX (p:Pg) (out:List Str):Nat:=p.procs.countP fun f => !(out.any fun s=>f.name==s)
theorem q3m {α:Type} {p q:α→Bool} : ∀ {l:List α},(∀ x∈l,q x=true→p x=true)→(∃ x∈l,p x=true∧q x=false)→l.countP q<l.countP p
 | [],_,h=>by obtain ⟨x,hx,_⟩:=h;cases hx
 | a::r,h1,h2=>by
   have hle:r.countP q≤r.countP p:=List.countP_mono_left fun x hx=>h1 x (List.mem_cons_of_mem _ hx)
   rw [List.countP_cons,List.countP_cons]
   have ha:=h1 a List.mem_cons_self
   obtain ⟨x,hx,h3,h4⟩:=h2
   rcases List.mem_cons.1 hx with rfl|hx
   ·rw [h3,h4];simp;omega
   ·have:=q3m (fun y hy=>h1 y (List.mem_cons_of_mem _ hy)) ⟨x,hx,h3,h4⟩
    cases hq:q a with
    | true=>rw [ha hq];simp;omega
    | false=>cases p a<;>simp<;>omega
theorem x2e {p:Pg} {out:List Str} {f:Pr} (hf:f∈p.procs) (h:(out.any fun s=>f.name==s)=false):YX p (out++[f.name])<YX p out:=by
 unfold YX
 refine q3m (fun g _ hg => ?_) ⟨f,hf,by rw [h];rfl,by rw [List.any_append];simp⟩
 rw [List.any_append] at hg
 cases hq:out.any fun s=>g.name==s with
 | false=>rfl
 | true=>rw [hq] at hg;cases hg
def PG (p:Pg):List Str:=bif VV p then VB (FP p (p.procs.length+1) []) else []
theorem x7u (p:Pg) (hf:Fit p):SpecP Tryz.prog 29 [.agg p.cells] (fun r=>r=QH (PG p)):=by
 refine SpecP.body x9j QQ Tryz.func29 rfl Tryz.call29 (by show 1≤_;decide) ?_
 conv=>whnf
 cases hc:VV p with
 | false =>
   have e:PG p=[]:=by unfold PG;rw [hc];rfl
   have hA : ¬(x9t p).1=0:=by unfold VV at hc;simpa using hc
   rw [e]
   repeat' (first|(refine CallK.pure (VG p hf) (by repeat' (first|exact ArgP.nil|refine ArgP.cons ?_ ?_|exact Sub.refl _|exact Sub.tt rfl|exact Sub.ff rfl|exact Sub.int (by omega))) ?_;rintro _ rfl;conv=>whnf)|(refine Br.dec2 (fun _=>?_) (fun _=>?_)<;>first|(exfalso;omega)|conv=>whnf))
   all_goals first
    | exact ⟨_,.p Sub.nils,rfl⟩
    | (exfalso;exact hA (by assumption))
 | true =>
   obtain ⟨hg,hpl,hcn⟩:=HO hc
   have hA:(x9t p).1=0:=by unfold VV at hc;simpa using hc
   have e:PG p=VB (FP p (p.procs.length+1) []):=by unfold PG;rw [hc];rfl
   rw [e]
   repeat' (first|((first|(refine CallK.pure (VG p hf) (by repeat' (first|exact ArgP.nil|refine ArgP.cons ?_ ?_|exact Sub.refl _|exact Sub.tt rfl|exact Sub.ff rfl|exact Sub.int (by omega))) ?_;rintro _ rfl)|(refine CallK.pure (VO p (by omega) (by omega)) (.cons (Sub.refl _) .nil) ?_;rintro _ rfl));conv=>whnf)|(refine Br.dec2 (fun _=>?_) (fun _=>?_)<;>first|(exfalso;omega)|conv=>whnf))
   have hl:(p.procs.map fun f=>AV.agg f.cells).length=p.procs.length:=List.length_map _
   have hl0:YX p []≤p.procs.length:=List.countP_le_length
   refine LoopK.inv QQ (fun x:List Str×Bool=>⟨[(1,.p (.ip p.cells)),(3,.p (.ip (QX p).cells)),(4,.hd 0 0 x.1.length),(5,.p (bv x.2))],[(0,.own 9 1 (x.1.map .str))]⟩)
    (fun x=>x.1.length+YX p x.1≤p.procs.length∧(x.2=true → ∃ k,YX p x.1<k∧FP p k x.1=FP p (p.procs.length+1) [])∧(x.2=false→x.1=FP p (p.procs.length+1) [])) (fun x=>2*YX p x.1+x.2.toNat) ([],true)
    (Le.mk [(0,.own 9 1 [])] (by simp [Chunk.new0];rfl) (by simp) (by simp) (.cons (.refl _) (.cons (.refl _) (.cons (.nil List.mem_cons_self) (.cons (.refl _) .nil)))) (.new List.mem_cons_self .nil))
    ⟨by simpa using hl0,fun _=>⟨p.procs.length+1,by show YX p []<_;omega,rfl⟩,by simp⟩ ?_
   rintro ⟨out,more⟩ ⟨h1,h2,h3⟩
   simp only at h1 h2 h3 ⊢
   cases more with
   | false =>
     have h3:=h3 rfl
     rw [← h3]
     conv=>whnf
     repeat' (refine CallK.heap [(1000,0)] 0 (by repeat' (first|exact ArgsH.nil|refine ArgsH.cons ?_ ?_|exact LSub.refl _|exact LSub.p Sub.nils|exact LSub.p (Sub.tt rfl)|exact LSub.p (Sub.ff rfl)|exact LSub.p (Sub.int (by omega)))) (by refine BlksH.cons (j:=0) rfl rfl ?_ ?_;exact CSub.refl _;exact BlksH.nil) (GH out (by omega)) rfl rfl ?_;rintro l' H' ⟨rfl,rfl⟩;conv=>whnf)
     exact ⟨_,.hd rfl (by simp [VU]),rfl⟩
   | true =>
     obtain ⟨k,hk1,hk2⟩:=h2 rfl
     clear h2 h3
     conv=>whnf
     repeat' (intro (_:_≤9223372036854775807);conv=>whnf)
     refine LoopK.inv QQ (fun x:Nat×List Str×Bool=>⟨[(1,.p (.ip p.cells)),(3,.p (.ip (QX p).cells)),(4,.hd 0 0 x.2.1.length),(5,.p (bv x.2.2)),(15,.p (.sl (p.procs.map fun f => .agg f.cells))),(16,.p (.int .i64 (p.procs.map fun f=>AV.agg f.cells).length)),(17,.p (.int .i64 x.1))],[(0,.own 9 1 (x.2.1.map .str))]⟩)
      (fun x=>x.1≤p.procs.length∧((List.range p.procs.length).drop x.1).foldl (x3o p) x.2=q1l p out∧x.2.1.length+YX p x.2.1≤p.procs.length∧YX p x.2.1+x.2.2.toNat≤YX p out∧(x.2.2=false→x.2.1=out)) (fun x=>p.procs.length-x.1) (0,out,false) (Le.of_eq rfl) ⟨Nat.zero_le _,rfl,h1,Nat.le_refl _,fun _=>rfl⟩ ?_
     rintro ⟨m,o,b⟩ ⟨h4,h5,h6,h7,h8⟩
     simp only at h4 h5 h6 h7 h8 ⊢
     rcases Nat.lt_or_ge m p.procs.length with hm|hm
     rotate_left 1
     ·rw [List.drop_eq_nil_of_le (by simpa using hm),List.foldl_nil] at h5
      obtain ⟨k',rfl⟩ : ∃ k',k=k'+1:=⟨k-1,by omega⟩
      rw [FP,← h5] at hk2
      conv=>whnf
      repeat' (refine Br.dec (fun _=>?_) (fun _=>?_)<;>first|(exfalso;omega)|conv=>whnf)
      cases b with
      | true=>exact ⟨(o,true),⟨h6,fun _=>⟨k',by show YX p o<k';simp only [Bool.toNat_true] at h7;omega,hk2⟩,by simp⟩,by simp only [Bool.toNat_true] at h7 ⊢;omega,Le.mk [] (by simp) (by simp) (by simp) (.cons (.refl _) (.cons (.refl _) (.cons (.refl _) (.cons (.refl _) .nil)))) (.cons rfl (.refl _) .nil)⟩
      | false=>exact ⟨(o,false),⟨h6,by simp,fun _=>hk2⟩,by simp only [Bool.toNat_true,Bool.toNat_false] at h7 ⊢;omega,Le.mk [] (by simp) (by simp) (by simp) (.cons (.refl _) (.cons (.refl _) (.cons (.refl _) (.cons (.refl _) .nil)))) (.cons rfl (.refl _) .nil)⟩
     have hmr:m<(List.range p.procs.length).length:=by simpa using hm
     rw [List.drop_eq_getElem_cons hmr,List.foldl_cons,List.getElem_range] at h5
     have hkj:p.procs[m]? = some p.procs[m]:=by simp
     obtain ⟨w1,w2,w3⟩:=NK hc hkj
     obtain ⟨_,_,_,hsl,hsp⟩:=QG p
     obtain ⟨_,_,hle,_⟩:=hsp m _ hkj
     have hreal : ∀ t∈(QF p m p.procs[m]).real,t.src=0∨(1≤t.src∧t.src≤(QX p).l.length):=fun t ht=>by
      have:=(w2 t (z1e ht)).1
      omega
     have hrl:(QF p m p.procs[m]).real.length≤100000:=by
      have h9:=x0t (QK p m p.procs[m])
      have h10:=FH p m p.procs[m]
      show (ZD (QK p m p.procs[m])).length≤100000
      omega
     have hE:=x0l (QF p m p.procs[m]) p.procs[m] hkj hcn rfl hreal hrl o
     have hst:x3o p (o,b) m=bif !(o.any fun s=>p.procs[m].name==s)&&HN (QF p m p.procs[m]) p.procs[m] o then (o++[p.procs[m].name],true) else (o,b):=by unfold x3o;rw [hkj]
     rw [hst] at h5
     conv=>whnf
     repeat' (first|((first|refine And.intro rfl ?_|(refine And.intro ⟨by decide,by decide⟩ ?_)|refine BsK.pure (fun x hx=>by rcases List.mem_singleton.1 hx with rfl;rfl) rfl ?_|refine IdxK.map (by omega) (fun _=>rfl) ?_|refine Wr.i64 (by omega) (by omega) ?_|(refine CallK.borrow (QZ o p.procs[m].name) (.cons (.hd rfl (by simp)) (.cons (.p (Sub.refl _)) .nil)) (by rintro _ rfl;rfl) ?_;rintro _ rfl)|(refine CallK.pure (z0a p m p.procs[m] hkj (by omega) w1 w3) (.cons (Sub.refl _) (.cons (Sub.refl _) .nil)) ?_;rintro _ rfl)|(refine CallK.borrow hE (.cons (.p (Sub.refl _)) (.cons (.hd rfl (by simp)) .nil)) (by rintro _ rfl;rfl) ?_;rintro _ rfl)|refine AppK.str1 (by simp) (by rw [List.length_map];omega) ?_);conv=>whnf)|(refine Br.dec (fun _=>?_) (fun _=>?_)<;>first|(exfalso;omega)|conv=>whnf)|(refine Br.n (fun _=>?_) (fun _=>?_)<;>conv=>whnf)|(refine Br.b (fun _=>?_) (fun _=>?_)<;>conv=>whnf))
     all_goals first
      | (have e1:(!(o.any fun s=>p.procs[m].name==s)&&HN (QF p m p.procs[m]) p.procs[m] o)=true:=by simp [*];done
         rw [e1,cond_true] at h5
         have h9:=x2e (p:=p) (out:=o) (f:=p.procs[m]) (List.getElem_mem hm) (by assumption)
         exact ⟨(m+1,o++[p.procs[m].name],true),⟨by simp only;omega,h5,by simp;omega,by show YX p (o++[p.procs[m].name])+1≤_;omega,by simp⟩,by simp only;omega,Le.of_eq (by simp only [List.length_append,List.map_append];rfl)⟩)
      | (have e1:(!(o.any fun s=>p.procs[m].name==s)&&HN (QF p m p.procs[m]) p.procs[m] o)=false:=by simp [*];done
         rw [e1,cond_false] at h5
         exact ⟨(m+1,o,b),⟨by simp only;omega,h5,h6,h7,h8⟩,by simp only;omega,Le.of_eq rfl⟩)
open Go.Proofs
def MY (a b:Step):Prop:=XM a.src<XM b.src∨(XM a.src=XM b.src∧XM a.dst<XM b.dst)
def z3r (s:Step):Prop:=q5k s∧s.kind=1
theorem Step.eq_of {a b:Step} (h1:a.src=b.src) (h2:a.dst=b.dst) (h3:a.kind=b.kind):a=b:=by
 cases a;cases b;simp_all
theorem KL {a b:Step}:HQ a b=true↔XM a.src<XM b.src∨(XM a.src=XM b.src∧(XM a.dst<XM b.dst∨(XM a.dst=XM b.dst∧a.kind<b.kind))):=by
 have h:HQ a b=decide (x3m a b<0):=rfl
 rw [h,decide_eq_true_eq]
 unfold x3m
 simp only [orI]
 split
 ·rename_i h1
  rw [YF] at h1
  split
  ·rename_i h2
   rw [YF] at h2
   split
   ·rename_i h3
    rw [YF] at h3
    omega
   ·rw [DQ];omega
  ·rename_i h2
   rw [YF] at h2
   rw [DQ]
   omega
 ·rename_i h1
  rw [YF] at h1
  rw [DQ]
  omega
theorem ME (l:List Step):(VL l).Pairwise fun a b=>HQ b a=false:=by
 have:=List.pairwise_mergeSort (le:=fun x y => !HQ y x) (fun a b c h1 h2=>by
  simp only [Bool.not_eq_true'] at h1 h2 ⊢
  rw [Bool.eq_false_iff,ne_eq,KL] at h1 h2 ⊢
  omega) (fun a b=>by
  cases h1:HQ b a with
  | false=>rfl
  | true =>
    have h2:HQ a b=false:=by
     rw [Bool.eq_false_iff,ne_eq,KL]
     rw [KL] at h1
     omega
    rw [h2]
    rfl) l
 refine List.Pairwise.imp ?_ this
 intro a b h
 simpa using h
theorem q2z {a b:Step} (ha:z3r a) (hb:z3r b):XI a b=true↔a=b:=by
 unfold XI
 simp only [Bool.and_eq_true,decide_eq_true_eq]
 refine ⟨fun h=>Step.eq_of h.1 h.2 (by rw [ha.2,hb.2]),fun h=>by rw [h];exact ⟨rfl,rfl⟩⟩
theorem z8v {a b:Step} (ha:z3r a) (hb:z3r b) (h:HQ b a=false) (hne:a≠b):MY a b:=by
 rw [Bool.eq_false_iff,ne_eq,KL] at h
 unfold MY
 by_cases h1:XM a.src=XM b.src
 ·by_cases h2:XM a.dst=XM b.dst
  ·exact absurd (Step.eq_of (JE ha.1.1 hb.1.1 h1) (JE ha.1.2 hb.1.2 h2) (by rw [ha.2,hb.2])) hne
  ·omega
 ·omega
theorem q0s {a b c:Step} (h:MY a b) (h':MY b c):MY a c:=by unfold MY at *;omega
theorem GF {a:Step} (h:MY a a):False:=by unfold MY at h;omega
theorem LL : ∀ (l:List Step) (a:Step),z3r a→(∀ s∈l,z3r s)→(a::l).Pairwise (fun a b=>HQ b a=false)→(a::QC a l).Pairwise MY ∧ ∀ s,s∈a::QC a l↔s∈a::l
 | [],a,_,_,_=>⟨by simp [QC],by simp [QC]⟩
 | b::r,a,ha,hl,h=>by
   have hb:=hl b List.mem_cons_self
   have hr : ∀ s∈r,z3r s:=fun s hs=>hl s (List.mem_cons_of_mem _ hs)
   rw [List.pairwise_cons] at h
   obtain ⟨h1,h2⟩:=h
   obtain ⟨i1,i2⟩:=LL r b hb hr h2
   rw [QC]
   cases hs:XI b a with
   | true =>
     obtain rfl:=(q2z hb ha).1 hs
     rw [cond_true]
     exact ⟨i1,fun s=>by rw [i2];simp⟩
   | false =>
     rw [cond_false]
     have hne:a≠b:=fun e=>by
      rw [(q2z hb ha).2 e.symm] at hs
      cases hs
     have hlt:=z8v ha hb (h1 b List.mem_cons_self) hne
     refine ⟨?_,fun s=>by rw [List.mem_cons,i2,← List.mem_cons (a:=s) (b:=a)]⟩
     rw [List.pairwise_cons]
     refine ⟨fun s hsm => ?_,i1⟩
     rcases List.mem_cons.1 hsm with rfl|hsm
     ·exact hlt
     ·exact q0s hlt ((List.pairwise_cons.1 i1).1 s hsm)
theorem x9i {l:List Step} (hok : ∀ s∈l,z3r s):(ZD l).Pairwise MY ∧ ∀ s,s∈ZD l↔s∈l:=by
 have hp : ∀ s,s∈VL l↔s∈l:=fun s=>(NJ l).mem_iff
 have hs:=ME l
 unfold ZD
 cases hq:VL l with
 | nil =>
   rw [hq] at hp
   exact ⟨by simp [PZ],fun s=>by rw [← hp];simp [PZ]⟩
 | cons a r =>
   rw [hq] at hp hs
   have hok' : ∀ s∈a::r,z3r s:=fun s h=>hok s ((hp s).1 h)
   obtain ⟨h1,h2⟩:=LL r a (hok' a List.mem_cons_self) (fun s h=>hok' s (List.mem_cons_of_mem _ h)) hs
   exact ⟨h1,fun s=>by rw [PZ,h2,hp]⟩
theorem q6r : ∀ {l m:List Step},l.Pairwise MY→m.Pairwise MY→(∀ s,s∈l↔s∈m)→l=m
 | [],[],_,_,_=>rfl
 | [],b::m,_,_,h=>by have:=(h b).2 List.mem_cons_self;cases this
 | a::l,[],_,_,h=>by have:=(h a).1 List.mem_cons_self;cases this
 | a::l,b::m,hl,hm,h=>by
   rw [List.pairwise_cons] at hl hm
   have hab:a=b:=by
    rcases List.mem_cons.1 ((h a).1 List.mem_cons_self) with e|ha
    ·exact e
    ·rcases List.mem_cons.1 ((h b).2 List.mem_cons_self) with e|hb
     ·exact e.symm
     ·exact (GF (q0s (hl.1 b hb) (hm.1 a ha))).elim
   subst hab
   congr 1
   refine q6r hl.2 hm.2 fun s=>⟨fun hs => ?_,fun hs => ?_⟩
   ·rcases List.mem_cons.1 ((h s).1 (List.mem_cons_of_mem _ hs)) with rfl|h'
    ·exact (GF (hl.1 _ hs)).elim
    ·exact h'
   ·rcases List.mem_cons.1 ((h s).2 (List.mem_cons_of_mem _ hs)) with rfl|h'
    ·exact (GF (hm.1 _ hs)).elim
    ·exact h'
theorem x3w {p:Pg} (h:VV p=true) {j:Nat} {f:Pr} (hj:p.procs[j]? = some f) : ∀ s∈QK p j f,z3r s:=by
 obtain ⟨_,_,h3⟩:=NK h hj
 intro s hs
 refine ⟨h3 s hs,?_⟩
 unfold QK at hs
 rcases List.mem_cons.1 hs with rfl|hs
 ·rfl
 ·obtain ⟨it,_,hz⟩:=List.mem_flatMap.1 hs
  obtain ⟨y,_,rfl⟩:=List.mem_map.1 hz
  rfl
theorem q4q {p:Pg} (h:VV p=true) {j:Nat} {f:Pr} (hj:p.procs[j]? = some f):(QF p j f).real.Pairwise MY ∧ ∀ s,s∈(QF p j f).real↔s∈QK p j f:=x9i (x3w h hj)
theorem z5b {p:Pg} (h:VV p=true) {j:Nat} {f:Pr} (hj:p.procs[j]? = some f):z9e p j f=q6y f.body (-1):=by
 have h1:=x0g (QE h).1 hj
 unfold z9e
 cases hb:f.body with
 | nil=>rw [QY,if_neg (by omega)];rfl
 | cons t r =>
   rw [hb,flL,z6r] at h1
   have h3:1≤QY (t::r):=by rw [QY,ZA];omega
   rw [if_pos (by omega)]
   have h4:=congrArg (fun l=>l[0]?) h1
   simp only [List.cons_append,List.map_cons] at h4
   unfold KH at h4
   rw [List.getElem?_map,List.getElem?_range' (by omega)] at h4
   simp at h4
   show _=t.id
   omega
open Go.Proofs
theorem JQ (c:UInt8):SpecP Tryz.prog 246 [.int .u8 c.toNat] (fun r=>r = .bool (UM c)):=by
 refine SpecP.body DB QQ Tryz.func246 rfl Tryz.call246 (by show 1≤_;decide) ?_
 conv=>whnf
 repeat' (refine Br.dec (fun _=>?_) (fun _=>?_)<;>first|(exfalso;omega)|conv=>whnf)
 ·exact RetK.bool (by simp_all [UM];try omega)
 ·exact RetK.ff (by simp_all [UM];try omega)
theorem LG (c:UInt8):SpecP Tryz.prog 247 [.int .u8 c.toNat] (fun r=>r = .bool (NF c)):=by
 refine SpecP.body BB QQ Tryz.func247 rfl Tryz.call247 (by show 1≤_;decide) ?_
 conv=>whnf
 repeat' (refine Br.dec (fun _=>?_) (fun _=>?_)<;>first|(exfalso;omega)|conv=>whnf)
 ·exact RetK.bool (by simp_all [NF];try omega)
 ·exact RetK.ff (by simp_all [NF];try omega)
def wordsL:List Str:=[[103,108,111,98,97,108],[112,114,111,99],[118,97,114],[114,101,102],[105,102],[101,108,115,101],[119,104,105,108,101],[98,114,101,97,107],[99,111,110,116,105,110,117,101],[114,101,116,117,114,110],[103,111,116,111],[114,101,97,100],[112,114,105,110,116]]
theorem LR:SpecP Tryz.prog 287 [] (fun r=>r=QH wordsL):=by
 refine SpecP.body BF QQ Tryz.func287 rfl Tryz.call287 (by show 0≤_;decide) ?_
 conv=>whnf
 repeat' ((first|refine And.intro rfl ?_|(refine And.intro ⟨by decide,by decide⟩ ?_)|refine BsK.pureL rfl rfl ?_);conv=>whnf)
 exact RetK.p rfl
theorem x7s (s:Str):q1e s=wordsL.any fun w=>w==s:=by
 rw [Bool.eq_iff_iff]
 unfold q1e wordsL
 simp only [Bool.or_eq_true,decide_eq_true_eq,List.any_cons,List.any_nil,Bool.or_false,beq_iff_eq,or_assoc,@eq_comm _ s]
theorem q1z (s:Str):SpecP Tryz.prog 248 [.str s] (fun r=>r = .bool (q1e s)):=by
 refine SpecP.body NB QQ Tryz.func248 rfl Tryz.call248 (by show 1≤_;decide) ?_
 conv=>whnf
 rw [x7s]
 repeat' ((first|intro (_:_≤9223372036854775807)|(refine CallK.pure LR .nil ?_;rintro _ rfl));conv=>whnf)
 have hlb:wordsL.length≤1000:=by decide
 generalize wordsL=l at hlb ⊢
 have hl:(l.map AV.str).length=l.length:=List.length_map _
 refine LoopK.inv QQ (fun j:Nat=>⟨[(0,.p (.str s)),(5,.p (QH l)),(6,.p (.int .i64 (l.map AV.str).length)),(7,.p (.int .i64 j))],[]⟩) (fun j=>j≤l.length∧(l.drop j).any (fun w=>w==s)=l.any fun w=>w==s) (fun j=>l.length-j) 0 (Le.of_eq rfl) ⟨Nat.zero_le _,rfl⟩ ?_
 rintro j ⟨h2,h3⟩
 conv=>whnf
 repeat' (first|((first|refine IdxK.map (by omega) (fun _=>rfl) ?_|refine Wr.i64 (by omega) (by omega) ?_);conv=>whnf)|(refine Br.dec (fun _=>?_) (fun _=>?_)<;>first|(exfalso;omega)|conv=>whnf)|(refine Br.b (fun _=>?_) (fun _=>?_)<;>conv=>whnf))
 ·exact RetK.tt (by rw [← h3,q0l (p:=fun w=>w==s) (by omega) (by assumption)])
 ·exact ⟨j+1,⟨by omega,by rw [← h3,LW (p:=fun w=>w==s) (by omega) (by assumption)]⟩,by omega,Le.of_eq rfl⟩
 ·exact RetK.ff (by rw [← h3,GW (by omega)])
theorem x3l {s:Str} {i:Nat} (h:s.length≤i):YU s i=i:=MB fun hi=>by omega
theorem XH (s:Str):SpecP Tryz.prog 176 [.str s] (fun r=>r = .bool (isName s)):=by
 refine SpecP.body PU QQ Tryz.func176 rfl Tryz.call176 (by show 1≤_;decide) ?_
 conv=>whnf
 by_cases hs:s=[]
 ·subst hs
  have e:isName []=false:=by unfold isName;rw [dif_neg (by simp)]
  rw [e]
  repeat' (first|(intro (_:_≤9223372036854775807);conv=>whnf)|(refine Br.dec (fun _=>?_) (fun _=>?_)<;>first|(exfalso;omega)|conv=>whnf)|(refine Br.b (fun _=>?_) (fun _=>?_)<;>conv=>whnf))
  all_goals first
   | exact RetK.ff rfl
   | (exfalso;simp_all;done)
 have hlen:0<s.length:=List.length_pos_iff.2 hs
 have hsb:(s==(⟨#[]⟩:ByteArray).data.toList)=false:=by simpa using hs
 repeat' (first|((first|intro (_:_≤9223372036854775807)|(refine CallK.pure (JQ _) (by repeat' (first|exact ArgP.nil|refine ArgP.cons ?_ ?_|exact Sub.refl _|exact Sub.tt rfl|exact Sub.ff rfl)) ?_;rintro _ rfl)|(refine ByteK.at (by omega) ?_));conv=>whnf)|(refine Br.dec (fun _=>?_) (fun _=>?_)<;>first|(exfalso;omega)|conv=>whnf)|(refine Br.n (fun _=>?_) (fun _=>?_)<;>conv=>whnf)|(refine Br.b (fun _=>?_) (fun _=>?_)<;>conv=>whnf))
 ·exfalso
  rename_i h
  rw [hsb] at h
  cases h
 ·exact RetK.ff (by unfold isName;rw [dif_neg (by omega)])
 rotate_left 1
 ·exact RetK.ff (by unfold isName;rw [dif_pos (by omega)];simp_all)
 have hl0:UM s[0]=true:=by assumption
 have hle:s.length≤8:=by omega
 have e0:YU s 0=YU s 1:=(DU hlen (by unfold z5e;rw [hl0];rfl)).symm
 have en:isName s=(decide (YU s 1=s.length) && !q1e s):=by
  unfold isName
  rw [dif_pos (by omega),hl0,e0]
  rfl
 refine LoopK.inv QQ (fun j:Nat=>⟨[(0,.p (.str s)),(3,.p (.int .i64 j))],[]⟩) (fun j=>1≤j∧j≤s.length∧YU s j=YU s 1) (fun j=>s.length-j) 1 (Le.of_eq rfl) ⟨Nat.le_refl _,hlen,rfl⟩ ?_
 rintro j ⟨h1,h2,h3⟩
 conv=>whnf
 repeat' (first|((first|intro (_:_≤9223372036854775807)|(refine CallK.pure (JQ _) (by repeat' (first|exact ArgP.nil|refine ArgP.cons ?_ ?_|exact Sub.refl _|exact Sub.tt rfl|exact Sub.ff rfl)) ?_;rintro _ rfl)|(refine CallK.pure (LG _) (by repeat' (first|exact ArgP.nil|refine ArgP.cons ?_ ?_|exact Sub.refl _|exact Sub.tt rfl|exact Sub.ff rfl)) ?_;rintro _ rfl)|(refine CallK.pure (q1z _) (by repeat' (first|exact ArgP.nil|refine ArgP.cons ?_ ?_|exact Sub.refl _|exact Sub.tt rfl|exact Sub.ff rfl)) ?_;rintro _ rfl)|(refine ByteK.at (by omega) ?_)|refine Wr.i64 (by omega) (by omega) ?_);conv=>whnf)|(refine Br.dec (fun _=>?_) (fun _=>?_)<;>first|(exfalso;omega)|conv=>whnf)|(refine Br.n (fun _=>?_) (fun _=>?_)<;>conv=>whnf))
 all_goals first
  | exact ⟨j+1,⟨by omega,by omega,by rw [DU (by omega) (by simp_all [z5e])];exact h3⟩,by omega,Le.of_eq rfl⟩
  | exact RetK.ff (by rw [en,← h3,MB fun _=>by simp_all [z5e]];simp;omega)
  | exact RetK.bool (by rw [en,← h3,x3l (by omega),show j=s.length by omega];simp)
theorem VZ (l:List Str):SpecP Tryz.prog 175 [QH l] (fun r=>r = .bool (namesB l)):=by
 refine SpecP.body DH QQ Tryz.func175 rfl Tryz.call175 (by show 1≤_;decide) ?_
 conv=>whnf
 intro (_:_≤9223372036854775807)
 conv=>whnf
 refine LoopK.inv QQ (fun j:Nat=>⟨[(5,.p (QH l)),(6,.p (.int .i64 (l.map AV.str).length)),(7,.p (.int .i64 j))],[]⟩) (fun j=>j≤l.length∧(l.drop j).all isName=namesB l) (fun j=>l.length-j) 0 (Le.of_eq rfl) ⟨Nat.zero_le _,rfl⟩ ?_
 rintro j ⟨h2,h3⟩
 have hl:(l.map AV.str).length=l.length:=List.length_map _
 conv=>whnf
 repeat' (first|((first|(refine CallK.pure (XH _) (by repeat' (first|exact ArgP.nil|refine ArgP.cons ?_ ?_|exact Sub.refl _|exact Sub.tt rfl|exact Sub.ff rfl)) ?_;rintro _ rfl)|refine IdxK.map (by omega) (fun _=>rfl) ?_|refine Wr.i64 (by omega) (by omega) ?_);conv=>whnf)|(refine Br.dec (fun _=>?_) (fun _=>?_)<;>first|(exfalso;omega)|conv=>whnf)|(refine Br.n (fun _=>?_) (fun _=>?_)<;>conv=>whnf))
 ·exact ⟨j+1,⟨by omega,by rw [JP (by omega) (by assumption)];exact h3⟩,by omega,Le.of_eq rfl⟩
 ·exact RetK.ff (by rw [← h3,MV (by omega) (by assumption)])
 ·exact RetK.tt (by rw [← h3,JD (by omega)])
open Go.Proofs
theorem MD (op:Int):SpecP Tryz.prog 288 [.int .i64 op] (fun r=>r = .int .i64 (q2w op)):=by
 refine SpecP.body BK QQ Tryz.func288 rfl Tryz.call288 (by show 1≤_;decide) ?_
 conv=>whnf
 repeat' (refine Br.dec (fun _=>?_) (fun _=>?_)<;>first|(exfalso;omega)|conv=>whnf)
 all_goals exact RetK.int (by unfold q2w;(repeat' split)<;>omega)
theorem KF (x:X):SpecP Tryz.prog 249 [.agg x.cells] (fun r=>r = .bool (noneB x)):=by
 refine SpecP.body PO QQ Tryz.func249 rfl Tryz.call249 (by show 1≤_;decide) ?_
 conv=>whnf
 repeat' (first|(intro (_:_≤9223372036854775807);conv=>whnf)|(refine Br.dec (fun _=>?_) (fun _=>?_)<;>first|(exfalso;omega)|conv=>whnf)|(refine Br.b (fun _=>?_) (fun _=>?_)<;>conv=>whnf))
 all_goals have hk:((X.avs x.kids).length:Int)=x.kids.length:=by rw [X.avs_len]
 all_goals first
  | exact RetK.ff (by simp_all [noneB];done)
  | exact RetK.bool (by simp_all [noneB];done)
def KJ (x:X):Bool:=decide (q2w x.op=(x.kids.length:Int))&&(decide (x.op=1)||decide (x.n=0))&&decide (0≤x.n)&&(decide (x.op=2) == !(x.name==[]))&&((x.name==[])||isName x.name)
def DT:Nat→X→Bool
 | 0,_=>true
 | k+1,x=>KJ x&&x.kids.all (DT k)
theorem x4t : ∀ (l:List X) (y:X),y∈l→wX y≤wXs l
 | [],y,h=>by cases h
 | a::r,y,h=>by
   rw [wXs]
   rcases List.mem_cons.1 h with rfl|h
   ·omega
   ·have:=x4t r y h;omega
theorem KZ : ∀ (k:Nat) (x:X) (_:wX x<k),SpecP Tryz.prog 252 [.agg x.cells] (fun r=>r = .bool (DT k x)):=by
 intro k
 induction k with
 | zero=>intro x h;omega
 | succ k ih =>
   intro x hx
   have hxe:wX x=1+wXs x.kids:=by cases x;rw [wX];rfl
   have hk:((X.avs x.kids).length:Int)=x.kids.length:=by rw [X.avs_len]
   refine SpecP.body PV QQ Tryz.func252 rfl Tryz.call252 (by show 1≤_;decide) ?_
   conv=>whnf
   repeat' (first|((first|intro (_:_≤9223372036854775807)|(refine CallK.pure (MD _) (by repeat' (first|exact ArgP.nil|refine ArgP.cons ?_ ?_|exact Sub.refl _|exact Sub.tt rfl|exact Sub.ff rfl)) ?_;rintro _ rfl)|(refine CallK.pure (XH _) (by repeat' (first|exact ArgP.nil|refine ArgP.cons ?_ ?_|exact Sub.refl _|exact Sub.tt rfl|exact Sub.ff rfl)) ?_;rintro _ rfl)|refine DrawK.auto QQ mixed (by kernel_rfl) ?_|refine ValO.boolNeq QQ rfl rfl rfl rfl rfl ?_);conv=>whnf)|(refine Br.dec (fun _=>?_) (fun _=>?_)<;>first|(exfalso;omega)|conv=>whnf)|(refine Br.dec2 (fun _=>?_) (fun _=>?_)<;>first|(exfalso;omega)|conv=>whnf)|(refine Br.n (fun _=>?_) (fun _=>?_)<;>conv=>whnf))
   all_goals simp only [show (ByteArray.mk #[]).data.toList=[] from rfl] at *
   all_goals first
    | (refine RetK.ff ?_
       rw [DT,Bool.and_eq_false_iff]
       left
       unfold KJ
       rw [show decide (0≤x.n)=false from decide_eq_false (by omega)]
       simp
       done)
    | (refine RetK.ff ?_
       rw [DT,Bool.and_eq_false_iff]
       left
       rename_i h
       have hq:(decide (x.op=2) == !(x.name==[]))=false:=by
        have e:decide (x.op=2)=(x.op==2):=rfl
        rw [e]
        revert h
        cases (x.op==2)<;>cases (x.name==[])<;>decide
       unfold KJ
       rw [hq]
       simp
       done)
    | (refine RetK.ff ?_
       rw [DT,Bool.and_eq_false_iff]
       left
       simp_all [KJ]
       done)
    | (refine RetK.ff ?_
       rw [DT,Bool.and_eq_false_iff]
       left
       simp_all [KJ]
       omega)
    | (have h0:KJ x=true:=by first
        | (simp_all [KJ];done)
        | (simp_all [KJ];omega)
       rw [show DT (k+1) x=x.kids.all (DT k) by rw [DT,h0];rfl])
   all_goals
    clear h0
    refine LoopK.inv QQ (fun j:Nat=>⟨[(1,.p (.ip x.cells)),(48,.p (.int .i64 (X.avs x.kids).length)),(49,.p (.int .i64 j))],[]⟩) (fun j=>j≤x.kids.length∧(x.kids.drop j).all (DT k)=x.kids.all (DT k)) (fun j=>x.kids.length-j) 0 (Le.of_eq rfl) ⟨Nat.zero_le _,rfl⟩ ?_
    rintro j ⟨h2,h3⟩
    rcases Nat.lt_or_ge j x.kids.length with hj|hj
    ·have hw:=x4t x.kids _ (List.getElem_mem hj)
     conv=>whnf
     repeat' (first|((first|refine IdxK.xs (by omega) ?_|refine Wr.i64 (by omega) (by omega) ?_|(refine CallK.pure (ih (x.kids[j]'hj) (by omega)) (.cons (Sub.refl _) .nil) ?_;rintro _ rfl));conv=>whnf)|(refine Br.dec (fun _=>?_) (fun _=>?_)<;>first|(exfalso;omega)|conv=>whnf)|(refine Br.n (fun _=>?_) (fun _=>?_)<;>conv=>whnf))
     ·exact ⟨j+1,⟨by omega,by rw [JP (by omega) (by assumption)];exact h3⟩,by omega,Le.of_eq rfl⟩
     ·exact RetK.ff (by rw [← h3,MV (by omega) (by assumption)])
    ·conv=>whnf
     repeat' (refine Br.dec (fun _=>?_) (fun _=>?_)<;>first|(exfalso;omega)|conv=>whnf)
     exact RetK.tt (by rw [← h3,JD (by omega)])
open Go.Proofs
def x8i:List Nat→Nat
 | []=>0
 | a::r=>max a (x8i r)
def JI:Nat→X→Nat
 | 0,_=>1
 | m+1,x=>1+x8i (x.kids.map (JI m))
theorem x5g {l:List Nat} {m:Nat} (h : ∀ a∈l,a≤m):x8i l≤m:=by
 induction l with
 | nil=>exact Nat.zero_le _
 | cons a r ih =>
   have:=ih fun b hb=>h b (List.mem_cons_of_mem _ hb)
   have:=h a List.mem_cons_self
   rw [x8i]
   omega
theorem q9b : ∀ (m:Nat) (x:X),JI m x≤m+1
 | 0,_=>Nat.le_refl _
 | m+1,x=>by
   rw [JI]
   have:x8i (x.kids.map (JI m))≤m+1:=x5g fun a ha=>by
    obtain ⟨y,_,rfl⟩:=List.mem_map.1 ha
    exact q9b m y
   omega
theorem JO : ∀ (m:Nat) (_:m≤1000) (x:X),SpecP Tryz.prog 251 [.agg x.cells,.int .i64 m] (fun r=>r = .int .i64 (JI m x)):=by
 intro m
 induction m with
 | zero =>
   intro _ x
   refine SpecP.body YK QQ Tryz.func251 rfl Tryz.call251 (by show 2≤_;decide) ?_
   conv=>whnf
   repeat' (refine Br.dec (fun _=>?_) (fun _=>?_)<;>first|(exfalso;omega)|conv=>whnf)
   exact RetK.int rfl
 | succ m ih =>
   intro hm x
   have hk:((X.avs x.kids).length:Int)=x.kids.length:=by rw [X.avs_len]
   refine SpecP.body YK QQ Tryz.func251 rfl Tryz.call251 (by show 2≤_;decide) ?_
   conv=>whnf
   repeat' (refine Br.dec (fun _=>?_) (fun _=>?_)<;>first|(exfalso;omega)|conv=>whnf)
   have hmx:x8i (x.kids.map (JI m))≤m+1:=x5g fun a ha=>by
    obtain ⟨y,_,rfl⟩:=List.mem_map.1 ha
    exact q9b m y
   refine LoopK.inv QQ (fun y:Nat×Nat=>⟨[(1,.p (.int .i64 (m+1:Nat))),(2,.p (.ip x.cells)),(5,.p (.int .i64 y.2)),(6,.p (.int .i64 y.1))],[]⟩) (fun y=>y.1≤x.kids.length∧y.2≤m+1∧max y.2 (x8i ((x.kids.drop y.1).map (JI m)))=x8i (x.kids.map (JI m))) (fun y=>x.kids.length-y.1) (0,0) (Le.of_eq rfl) ⟨Nat.zero_le _,Nat.zero_le _,by simp⟩ ?_
   rintro ⟨j,d⟩ ⟨h2,h3,h4⟩
   simp only at h2 h3 h4 ⊢
   rcases Nat.lt_or_ge j x.kids.length with hj|hj
   ·rw [List.drop_eq_getElem_cons hj,List.map_cons,x8i] at h4
    have hd:=q9b m x.kids[j]
    conv=>whnf
    repeat' (first|((first|intro (_:_≤9223372036854775807)|refine IdxK.xs (by omega) ?_|refine Wr.i64 (by omega) (by omega) ?_|(refine CallK.pure (ih (by omega) (x.kids[j]'hj)) (.cons (Sub.refl _) (.cons (Sub.int (by omega)) .nil)) ?_;rintro _ rfl));conv=>whnf)|(refine Br.dec (fun _=>?_) (fun _=>?_)<;>first|(exfalso;omega)|conv=>whnf))
    all_goals first
     | exact ⟨(j+1,JI m x.kids[j]),⟨by simp only;omega,by simp only;omega,by simp only;omega⟩,by simp only;omega,Le.of_eq rfl⟩
     | exact ⟨(j+1,d),⟨by simp only;omega,by simp only;omega,by simp only;omega⟩,by simp only;omega,Le.of_eq rfl⟩
     | exact RetK.int (by rw [JI];omega)
   ·rw [List.drop_eq_nil_of_le hj,List.map_nil,x8i] at h4
    conv=>whnf
    repeat' (first|((first|intro (_:_≤9223372036854775807)|refine Wr.i64 (by omega) (by omega) ?_);conv=>whnf)|(refine Br.dec (fun _=>?_) (fun _=>?_)<;>first|(exfalso;omega)|conv=>whnf))
    exact RetK.int (by rw [JI];omega)
def mayXR (x:X):Bool:=decide (JI 20 x≤20)&&DT (wX x+1) x
theorem UN (x:X):SpecP Tryz.prog 178 [.agg x.cells] (fun r=>r = .bool (mayXR x)):=by
 refine SpecP.body VT QQ Tryz.func178 rfl Tryz.call178 (by show 1≤_;decide) ?_
 conv=>whnf
 repeat' (first|((first|(refine CallK.pure (JO 20 (by omega) x) (.cons (Sub.refl _) (.cons (Sub.refl _) .nil)) ?_;rintro _ rfl)|(refine CallK.pure (KZ (wX x+1) x (by omega)) (.cons (Sub.refl _) .nil) ?_;rintro _ rfl));conv=>whnf)|(refine Br.dec (fun _=>?_) (fun _=>?_)<;>first|(exfalso;omega)|conv=>whnf))
 all_goals first
  | exact RetK.bool (by unfold mayXR;rw [decide_eq_true (by omega)];rfl)
  | exact RetK.ff (by unfold mayXR;rw [decide_eq_false (by omega)];rfl)
theorem q1w : ∀ (n:Nat) (x:X),WF n x=true→JI n x≤n ∧ ∀ k,DT k x=true
 | 0,x,h=>by rw [WF] at h;cases h
 | n+1,x,h=>by
   rw [WF] at h
   simp only [Bool.and_eq_true,decide_eq_true_eq] at h
   obtain ⟨h1,h2⟩:=h
   have hkids:(∀ y∈x.kids,WF n y=true)∧KJ x=true:=by
    split at h2
    ·rename_i ho
     simp only [Bool.and_eq_true,decide_eq_true_eq] at h2
     have hk0:x.kids=[]:=by
      rw [ho] at h1
      have:q2w 1=0:=by decide
      rw [this] at h1
      exact List.length_eq_zero_iff.1 (by omega)
     refine ⟨by rw [hk0];simp,?_⟩
     unfold KJ
     rw [h1,ho,h2.2]
     simp [h2.1]
    split at h2
    ·rename_i ho
     simp only [Bool.and_eq_true,decide_eq_true_eq] at h2
     have hk0:x.kids=[]:=by
      rw [ho] at h1
      have:q2w 2=0:=by decide
      rw [this] at h1
      exact List.length_eq_zero_iff.1 (by omega)
     have hne:(x.name==[])=false:=by
      cases hq:x.name with
      | nil =>
        have:=h2.2
        rw [hq] at this
        unfold isName at this
        rw [dif_neg (by simp)] at this
        cases this
      | cons a r=>rfl
     refine ⟨by rw [hk0];simp,?_⟩
     unfold KJ
     rw [h1,ho,h2.2,hne,h2.1]
     simp
    ·rename_i ho1 ho2
     simp only [Bool.and_eq_true,decide_eq_true_eq,List.all_eq_true] at h2
     refine ⟨h2.2,?_⟩
     unfold KJ
     rw [h1,h2.1.1,h2.1.2]
     simp [ho1,ho2]
   refine ⟨?_,fun k => ?_⟩
   ·rw [JI]
    have:x8i (x.kids.map (JI n))≤n:=x5g fun a ha=>by
     obtain ⟨y,hy,rfl⟩:=List.mem_map.1 ha
     exact (q1w n y (hkids.1 y hy)).1
    omega
   ·cases k with
    | zero=>rfl
    | succ k =>
      rw [DT,hkids.2,Bool.true_and,List.all_eq_true]
      exact fun y hy=>(q1w n y (hkids.1 y hy)).2 k
theorem z2w {x:X} (h:z2g x=true):mayXR x=true:=by
 obtain ⟨h1,h2⟩:=q1w 20 x h
 unfold mayXR
 rw [decide_eq_true h1,h2]
 rfl
open Go.Proofs
def argR (a:Arg):Bool:=bif a.ref then isName a.name&&noneB a.x else (a.name==[])&&mayXR a.x
theorem GT (a:Arg):SpecP Tryz.prog 250 [.agg a.cells] (fun r=>r = .bool (argR a)):=by
 refine SpecP.body NN QQ Tryz.func250 rfl Tryz.call250 (by show 1≤_;decide) ?_
 conv=>whnf
 repeat' (first|((first|(refine CallK.pure (XH _) (by repeat' (first|exact ArgP.nil|refine ArgP.cons ?_ ?_|exact Sub.refl _|exact Sub.tt rfl|exact Sub.ff rfl)) ?_;rintro _ rfl)|(refine CallK.pure (KF _) (by repeat' (first|exact ArgP.nil|refine ArgP.cons ?_ ?_|exact Sub.refl _|exact Sub.tt rfl|exact Sub.ff rfl)) ?_;rintro _ rfl)|(refine CallK.pure (UN _) (by repeat' (first|exact ArgP.nil|refine ArgP.cons ?_ ?_|exact Sub.refl _|exact Sub.tt rfl|exact Sub.ff rfl)) ?_;rintro _ rfl));conv=>whnf)|(refine Br.b (fun _=>?_) (fun _=>?_)<;>conv=>whnf))
 all_goals simp only [show (ByteArray.mk #[]).data.toList=[] from rfl] at *
 all_goals first
  | exact RetK.bool (by simp_all [argR])
  | exact RetK.ff (by simp_all [argR])
theorem z8r {a:Arg} (h:NA a=true):argR a=true:=by
 unfold NA UD GO at h
 unfold argR
 cases hr:a.ref with
 | true =>
   rw [hr] at h
   simpa using h
 | false =>
   rw [hr] at h
   simp only [cond_false,Bool.not_false,cond_true,Bool.and_eq_true] at h
   rw [h.1,z2w h.2]
   rfl
open Go.Proofs
def oneOk (s:S):Bool:=WW s&&namesB s.labels
def hasXB (s:S):Bool:=decide (s.kind=1)||decide (s.kind=3)||decide (s.kind=5)||decide (s.kind=6)||(decide (s.kind=9)&&s.has)
structure OneF (s:S):Prop where
 labels:namesB s.labels=true
 lo:1≤s.kind
 hi:s.kind≤10
 x:hasXB s=true→mayXR s.x=true
 nox:hasXB s=false→noneB s.x=true
 has:s.has=true→s.kind=9
 name:s.kind=1∨s.kind=2∨s.kind=10→isName s.name=true
 noname : ¬(s.kind=1∨s.kind=2∨s.kind=10)→(s.name==[])=true∨(s.kind=4∧isName s.name=true)
 proc:s.kind=4→isName s.proc=true
 noproc:s.kind≠4→(s.proc==[])=true
 args:s.args.all argR=true
 noargs:s.kind≠4→s.args.length=0
 thn:s.thn.length=0∨s.kind=5∨s.kind=6
 els:s.els.length=0∨s.kind=5
theorem q0q {s:Str} (h:isName s=true):(s==[])=false:=by
 cases s with
 | nil=>unfold isName at h;rw [dif_neg (by simp)] at h;cases h
 | cons a r=>rfl
theorem YP {s:S} (h:oneOk s=true):OneF s:=by
 unfold oneOk at h
 rw [Bool.and_eq_true] at h
 obtain ⟨h,hlab⟩:=h
 have hargs:s.args.all NA=true→s.args.all argR=true:=fun h=>by
  rw [List.all_eq_true] at h ⊢
  exact fun a ha=>z8r (h a ha)
 have key : ∀ (k:Int) (f:Flds),s.kind=k→LZ s.kind s.has (s.name==[])=some f→f.has=false∧(f.thn=false→s.thn.length=0)∧(f.els=false→s.els.length=0)∧(s.kind≠4→s.args.length=0)∧UD s.name f.name=true∧UD s.proc f.proc=true∧GO s.x f.x=true∧s.args.all argR=true:=fun k f hk hf=>by
  rw [q7u hf] at h
  simp only [Bool.and_eq_true,Bool.not_eq_true',Bool.or_eq_false_iff,Bool.and_eq_false_iff,Bool.not_eq_false',decide_eq_false_iff_not,decide_eq_true_eq] at h
  obtain ⟨⟨⟨⟨⟨⟨⟨h1,h2⟩,h3⟩,h4⟩,h5⟩,h6⟩,h7⟩,h8⟩:=h
  refine ⟨h1,fun hq => ?_,fun hq => ?_,fun hq => ?_,h5,h6,h7,hargs h8⟩
  ·rcases h2 with h2|h2
   ·rw [hq] at h2;cases h2
   ·omega
  ·rcases h3 with h3|h3
   ·rw [hq] at h3;cases h3
   ·omega
  ·rcases h4 with h4|h4
   ·exact absurd h4 hq
   ·omega
 have hkind:s.kind=1∨s.kind=2∨s.kind=3∨s.kind=4∨s.kind=5∨s.kind=6∨s.kind=7∨s.kind=8∨s.kind=9∨s.kind=10:=by
  unfold WW at h
  split at h
  ·cases h
  ·rename_i f hf
   unfold LZ at hf
   (repeat' split at hf)<;>first|(cases hf;done)|omega
 have fin : ∀ (k:Int) (f:Flds),s.kind=k→LZ s.kind s.has (s.name==[])=some f→(1≤k∧k≤10)→f.x=hasXB s→(s.has=true→f.has=true∨k=9)→((k=1∨k=2∨k=10)→f.name=true)→(¬(k=1∨k=2∨k=10)→f.name=false∨(k=4∧f.name = !(s.name==[])))→f.proc=decide (k=4)→(f.thn=true→k=5∨k=6)→(f.els=true→k=5)→OneF s:=fun k f hk hf hkk hfx hfh hfn hfnn hfp hft hfe=>by
  obtain ⟨h1,h2,h3,h4,h5,h6,h7,h8⟩:=key k f hk hf
  unfold GO at h7
  refine ⟨hlab,by omega,by omega,fun hq => ?_,fun hq => ?_,fun hq => ?_,fun hq => ?_,fun hq => ?_,fun hq => ?_,fun hq => ?_,h8,h4,?_,?_⟩
  ·rw [hfx,hq] at h7;exact z2w h7
  ·rw [hfx,hq] at h7;exact h7
  ·rcases hfh hq with h9|h9
   ·rw [h1] at h9;cases h9
   ·omega
  ·rw [hfn (by omega)] at h5;exact h5
  ·rcases hfnn (by omega) with h9|⟨h9,h10⟩
   ·rw [h9] at h5;exact .inl h5
   ·cases hq2:s.name==[] with
    | true=>exact .inl rfl
    | false =>
      rw [h10,hq2] at h5
      exact .inr ⟨by omega,h5⟩
  ·rw [hfp,decide_eq_true (by omega)] at h6;exact h6
  ·rw [hfp,decide_eq_false (by omega)] at h6;exact h6
  ·cases ht:f.thn with
   | true=>exact .inr (by have:=hft ht;omega)
   | false=>exact .inl (h2 ht)
  ·cases he:f.els with
   | true=>exact .inr (by have:=hfe he;omega)
   | false=>exact .inl (h3 he)
 rcases hkind with hk|hk|hk|hk|hk|hk|hk|hk|hk|hk
 ·exact fin 1 ⟨true,false,true,s.has,false,false⟩ hk (by rw [hk];rfl) (by omega) (by unfold hasXB;rw [hk];rfl) (fun h => .inl h) (fun _=>rfl) (fun h=>absurd (by omega) h) rfl (fun h=>by cases h) (fun h=>by cases h)
 ·exact fin 2 ⟨true,false,false,s.has,false,false⟩ hk (by rw [hk];rfl) (by omega) (by unfold hasXB;rw [hk];rfl) (fun h => .inl h) (fun _=>rfl) (fun h=>absurd (by omega) h) rfl (fun h=>by cases h) (fun h=>by cases h)
 ·exact fin 3 ⟨false,false,true,s.has,false,false⟩ hk (by rw [hk];rfl) (by omega) (by unfold hasXB;rw [hk];rfl) (fun h => .inl h) (fun h=>by omega) (fun _ => .inl rfl) rfl (fun h=>by cases h) (fun h=>by cases h)
 ·exact fin 4 ⟨!(s.name==[]),true,false,s.has,false,false⟩ hk (by rw [hk];rfl) (by omega) (by unfold hasXB;rw [hk];rfl) (fun h => .inl h) (fun h=>by omega) (fun _ => .inr ⟨rfl,rfl⟩) rfl (fun h=>by cases h) (fun h=>by cases h)
 ·exact fin 5 ⟨false,false,true,s.has,true,true⟩ hk (by rw [hk];rfl) (by omega) (by unfold hasXB;rw [hk];rfl) (fun h => .inl h) (fun h=>by omega) (fun _ => .inl rfl) rfl (fun _ => .inl rfl) (fun _=>rfl)
 ·exact fin 6 ⟨false,false,true,s.has,true,false⟩ hk (by rw [hk];rfl) (by omega) (by unfold hasXB;rw [hk];rfl) (fun h => .inl h) (fun h=>by omega) (fun _ => .inl rfl) rfl (fun _ => .inr rfl) (fun h=>by cases h)
 ·exact fin 7 ⟨false,false,false,s.has,false,false⟩ hk (by rw [hk];rfl) (by omega) (by unfold hasXB;rw [hk];rfl) (fun h => .inl h) (fun h=>by omega) (fun _ => .inl rfl) rfl (fun h=>by cases h) (fun h=>by cases h)
 ·exact fin 8 ⟨false,false,false,s.has,false,false⟩ hk (by rw [hk];rfl) (by omega) (by unfold hasXB;rw [hk];rfl) (fun h => .inl h) (fun h=>by omega) (fun _ => .inl rfl) rfl (fun h=>by cases h) (fun h=>by cases h)
 ·exact fin 9 ⟨false,false,s.has,false,false,false⟩ hk (by rw [hk];rfl) (by omega) (by unfold hasXB;rw [hk];cases s.has<;>rfl) (fun _ => .inr rfl) (fun h=>by omega) (fun _ => .inl rfl) rfl (fun h=>by cases h) (fun h=>by cases h)
 ·exact fin 10 ⟨true,false,false,s.has,false,false⟩ hk (by rw [hk];rfl) (by omega) (by unfold hasXB;rw [hk];rfl) (fun h => .inl h) (fun _=>rfl) (fun h=>absurd (by omega) h) rfl (fun h=>by cases h) (fun h=>by cases h)
open Go.Proofs
structure RI where
 s:S
 deep:Int
 inn:Int
 els:Bool
def RI.cells (i:RI):List AV:=i.s.cells++[.int .i64 i.deep,.int .i64 i.inn,.bool i.els]
def KT (l:List RI):AV := .sl (l.map fun i => .agg i.cells)
def flF:Nat→Int→Bool→List S→List RI→List RI
 | 0,i,e,l,out=>l.foldl (fun o s=>if o.length≤200 then o++[⟨s,13,i,e⟩] else o) out
 | m+1,i,e,l,out=>l.foldl (fun o s=>if o.length≤200 then flF m s.id true s.els (flF m s.id false s.thn (o++[⟨s,13-((m+1:Nat):Int),i,e⟩])) else o) out
theorem FV : ∀ (m:Nat) (i:Int) (e:Bool) (l:List S) (out:List RI),out.length≤(flF m i e l out).length∧(flF m i e l out).length≤max out.length 201
 | 0,i,e,[],out=>by show out.length≤out.length∧_;exact ⟨Nat.le_refl _,Nat.le_max_left _ _⟩
 | m+1,i,e,[],out=>by show out.length≤out.length∧_;exact ⟨Nat.le_refl _,Nat.le_max_left _ _⟩
 | 0,i,e,s::r,out=>by
   have h:=FV 0 i e r (if out.length≤200 then out++[⟨s,13,i,e⟩] else out)
   show out.length≤(flF 0 i e r (if out.length≤200 then out++[⟨s,13,i,e⟩] else out)).length∧(flF 0 i e r (if out.length≤200 then out++[⟨s,13,i,e⟩] else out)).length≤_
   split at h
   ·rw [if_pos (by assumption)]
    simp only [List.length_append,List.length_singleton] at h
    omega
   ·rw [if_neg (by assumption)]
    exact h
 | m+1,i,e,s::r,out=>by
   have h:=FV (m+1) i e r (if out.length≤200 then flF m s.id true s.els (flF m s.id false s.thn (out++[⟨s,13-((m+1:Nat):Int),i,e⟩])) else out)
   show out.length≤(flF (m+1) i e r (if out.length≤200 then flF m s.id true s.els (flF m s.id false s.thn (out++[⟨s,13-((m+1:Nat):Int),i,e⟩])) else out)).length∧(flF (m+1) i e r (if out.length≤200 then flF m s.id true s.els (flF m s.id false s.thn (out++[⟨s,13-((m+1:Nat):Int),i,e⟩])) else out)).length≤_
   split at h
   ·rw [if_pos (by assumption)]
    have h1:=FV m s.id false s.thn (out++[⟨s,13-((m+1:Nat):Int),i,e⟩])
    have h2:=FV m s.id true s.els (flF m s.id false s.thn (out++[⟨s,13-((m+1:Nat):Int),i,e⟩]))
    simp only [List.length_append,List.length_singleton] at h1
    omega
   ·rw [if_neg (by assumption)]
    exact h
mutual
def fuS (d i:Int) (e:Bool):S→List RI
 | .mk id kind labels name proc x has args thn els=>⟨.mk id kind labels name proc x has args thn els,d,i,e⟩::(fuL (d+1) id false thn++fuL (d+1) id true els)
def fuL (d i:Int) (e:Bool):List S→List RI
 | []=>[]
 | t::r=>fuS d i e t++fuL d i e r
end
theorem q6p (d i:Int) (e:Bool) (t:S):fuS d i e t=⟨t,d,i,e⟩::(fuL (d+1) t.id false t.thn++fuL (d+1) t.id true t.els):=by
 cases t
 rw [fuS]
 rfl
mutual
theorem w1c (d i:Int) (e:Bool) : ∀ t:S,(fuS d i e t).map RI.s=flS t
 | .mk id kind labels name proc x has args thn els=>by
   rw [fuS,flS,List.map_cons,List.map_append,HG _ _ _ thn,HG _ _ _ els]
theorem HG (d i:Int) (e:Bool) : ∀ l:List S,(fuL d i e l).map RI.s=flL l
 | []=>by rw [fuL,flL];rfl
 | t::r=>by rw [fuL,flL,List.map_append,w1c _ _ _ t,HG _ _ _ r]
end
theorem JR (d i:Int) (e:Bool) (l:List S):(fuL d i e l).length=QY l:=by
 rw [← q3u,← HG d i e l,List.length_map]
theorem ZH {nest seen m:Int} {s:S} (h:q4w nest seen s=some m):oneOk s=true∧s.id=seen+1 ∧ ∃ m1,ZW (nest+1) (seen+1) s.thn=some m1∧ZW (nest+1) m1 s.els=some m:=by
 rw [z2l] at h
 split at h
 ·cases h
 split at h
 ·cases h
 rename_i hid
 cases hn:namesB s.labels<;>rw [hn] at h
 ·cases h
 cases hf:WW s<;>rw [hf] at h
 ·cases h
 simp only [cond_true] at h
 split at h
 ·rename_i m1 h1
  exact ⟨by unfold oneOk;rw [hn,hf];rfl,by omega,m1,h1,h⟩
 ·cases h
theorem XL {nest seen m:Int} {s:S} {r:List S} (h:ZW nest seen (s::r)=some m):nest≤12 ∧ ∃ m1,q4w nest seen s=some m1∧ZW nest m1 r=some m:=by
 rw [ZW] at h
 split at h
 ·cases h
 rename_i h0
 split at h
 ·rename_i m1 h1
  exact ⟨by omega,m1,h1,h⟩
 ·cases h
mutual
theorem z9o (d i:Int) (e:Bool) : ∀ (t:S) {n m:Int},d≤12→q4w d n t=some m → ∀ x∈fuS d i e t,x.deep≤12∧oneOk x.s=true
 | .mk id kind labels name proc x has args thn els,n,m,hd,h,y,hy=>by
   obtain ⟨h1,_,m1,h2,h3⟩:=ZH h
   rw [fuS] at hy
   rcases List.mem_cons.1 hy with rfl|hy
   ·exact ⟨hd,h1⟩
   ·rcases List.mem_append.1 hy with hy|hy
    ·exact x5r _ _ _ thn h2 y hy
    ·exact x5r _ _ _ els h3 y hy
theorem x5r (d i:Int) (e:Bool) : ∀ (l:List S) {n m:Int},ZW d n l=some m → ∀ x∈fuL d i e l,x.deep≤12∧oneOk x.s=true
 | [],n,m,h,y,hy=>by rw [fuL] at hy;cases hy
 | t::r,n,m,h,y,hy=>by
   obtain ⟨h1,m1,h2,h3⟩:=XL h
   rw [fuL] at hy
   rcases List.mem_append.1 hy with hy|hy
   ·exact z9o _ _ _ t h1 h2 y hy
   ·exact x5r _ _ _ r h3 y hy
end
theorem z9y : ∀ (k:Nat) (l:List S) (i:Int) (e:Bool) (out:List RI) (seen m:Int),ZW (13-(k:Int)) seen l=some m→out.length+QY l≤200→flF k i e l out=out++fuL (13-(k:Int)) i e l:=by
 intro k
 induction k with
 | zero =>
   intro l i e out seen m h hl
   cases l with
   | nil=>rw [fuL,List.append_nil];rfl
   | cons s r =>
     have:=(XL h).1
     simp at this
 | succ k ih =>
   intro l
   induction l with
   | nil=>intro i e out seen m h hl;rw [fuL,List.append_nil];rfl
   | cons s r ihr =>
     intro i e out seen m h hl
     obtain ⟨h1,m1,h2,h3⟩:=XL h
     obtain ⟨_,_,m2,h4,h5⟩:=ZH h2
     have ed:(13:Int)-((k+1:Nat):Int)+1=13-(k:Int):=by omega
     rw [ed] at h4 h5
     rw [QY,ZA] at hl
     show flF (k+1) i e r (if out.length≤200 then flF k s.id true s.els (flF k s.id false s.thn (out++[⟨s,13-((k+1:Nat):Int),i,e⟩])) else out)=_
     rw [if_pos (by omega),ih s.thn s.id false _ _ _ h4 (by simp;omega),ih s.els s.id true _ _ _ h5 (by simp [JR];omega),ihr i e _ _ _ h3 (by simp [JR];omega),fuL,q6p,ed]
     simp
def ZV (f:Pr):List RI:=flF 12 0 false f.body []
def HI (l:List Pr) (out:List RI):List RI:=l.foldl (fun o f=>if o.length≤200 then o++ZV f else o) out
def allR (p:Pg):List RI:=HI p.procs []
def flatU (f:Pr):List RI:=fuL 1 0 false f.body
theorem q3a : ∀ (l:List Pr) {n m:Int},XD n l=some m → ∀ f∈l,JL f=true ∧ ∃ a b,ZW 1 a f.body=some b
 | [],_,_,_,f,hf=>by cases hf
 | g::r,n,m,h,f,hf=>by
   rw [XD] at h
   cases hm:JL g<;>rw [hm] at h
   ·cases h
   simp only [cond_true] at h
   split at h
   ·rename_i m1 h1
    rcases List.mem_cons.1 hf with rfl|hf
    ·exact ⟨hm,_,_,h1⟩
    ·exact q3a r h f hf
   ·cases h
theorem q0g {p:Pg} (h:WM p=true):p.globals.length≤16∧p.procs.length≤16∧namesB p.globals=true ∧ ∀ f∈p.procs,JL f=true ∧ ∃ a b,ZW 1 a f.body=some b:=by
 unfold WM at h
 simp only [Bool.and_eq_true,decide_eq_true_eq] at h
 obtain ⟨⟨⟨h1,h2⟩,h3⟩,h4⟩:=h
 refine ⟨h1,h2,h3,?_⟩
 cases hm:XD 0 p.procs with
 | none=>rw [hm] at h4;cases h4
 | some m=>exact q3a p.procs hm
theorem DJ : ∀ (l:List Pr) (f:Pr),f∈l→QY f.body≤WA l
 | [],f,h=>by cases h
 | g::r,f,h=>by
   rw [WA]
   rcases List.mem_cons.1 h with rfl|h
   ·omega
   ·have:=DJ r f h
    omega
theorem ZU {p:Pg} (h:WM p=true) {f:Pr} (hf:f∈p.procs):ZV f=flatU f:=by
 obtain ⟨_,_,_,h4⟩:=q0g h
 obtain ⟨_,a,b,h5⟩:=h4 f hf
 have h6:=(XS h).2.2
 have h7:=DJ _ f hf
 have:=z9y 12 f.body 0 false [] a b h5 (by simp;omega)
 simpa [ZV,flatU] using this
theorem x6w : ∀ (l:List Pr) (out:List RI),(∀ f∈l,ZV f=flatU f)→out.length+WA l≤200→HI l out=out++l.flatMap flatU
 | [],out,_,_=>by show out=_;simp
 | f::r,out,h,hl=>by
   rw [WA] at hl
   show HI r (if out.length≤200 then out++ZV f else out)=_
   have e:=JR 1 0 false f.body
   rw [if_pos (by omega),h f List.mem_cons_self,x6w r _ (fun g hg=>h g (List.mem_cons_of_mem _ hg)) (by simp only [flatU,List.length_append,e];omega)]
   simp
theorem LO {p:Pg} (h:WM p=true):allR p=p.procs.flatMap flatU:=by
 have:=x6w p.procs [] (fun f hf=>ZU h hf) (by have:=(XS h).2.2;simpa using this)
 simpa [allR] using this
theorem z0h {p:Pg} (h:WM p=true) : ∀ x∈p.procs.flatMap flatU,x.deep≤12∧oneOk x.s=true:=by
 intro x hx
 obtain ⟨f,hf,hx⟩:=List.mem_flatMap.1 hx
 obtain ⟨_,_,_,h4⟩:=q0g h
 obtain ⟨_,a,b,h5⟩:=h4 f hf
 exact x5r 1 0 false f.body h5 x hx
theorem NM : ∀ (l:List Pr) {n:Nat} {m:Int},XD n l=some m→(l.flatMap fun f=>flL f.body).map S.id=KH n (WA l)
 | [],n,m,_=>by rw [WA];rfl
 | g::r,n,m,h=>by
   rw [XD] at h
   cases hm:JL g<;>rw [hm] at h
   ·cases h
   simp only [cond_true] at h
   split at h
   ·rename_i m1 h1
    have h2:=ZG _ _ g.body h1
    have h':XD ((n+QY g.body:Nat):Int) r=some m:=by rw [← h,h2];rfl
    have h3:=NM r h'
    rw [List.flatMap_cons,List.map_append,UL 1 g.body h1,h3,WA,GQ]
   ·cases h
theorem z7z (l:List Pr):(l.flatMap flatU).map RI.s=l.flatMap fun f=>flL f.body:=by
 induction l with
 | nil=>rfl
 | cons f r ih =>
   rw [List.flatMap_cons,List.flatMap_cons,List.map_append,ih]
   congr 1
   exact HG _ _ _ _
theorem MF (l:List Pr):(l.flatMap flatU).length=WA l:=by
 induction l with
 | nil=>rfl
 | cons f r ih=>rw [List.flatMap_cons,List.length_append,ih,WA];congr 1;exact JR _ _ _ _
theorem z5z {p:Pg} (h:WM p=true) {k:Nat} {x:RI} (hk:(p.procs.flatMap flatU)[k]? = some x):x.s.id=(k:Int)+1:=by
 unfold WM at h
 simp only [Bool.and_eq_true,decide_eq_true_eq] at h
 cases hm:XD 0 p.procs with
 | none=>rw [hm] at h;cases h.2
 | some m =>
   have h1:=NM p.procs (n:=0) hm
   rw [← z7z] at h1
   have h2:(((p.procs.flatMap flatU).map RI.s).map S.id)[k]? = some x.s.id:=by simp [hk]
   rw [h1] at h2
   unfold KH at h2
   have hlt:k<WA p.procs:=by rw [← MF];exact (List.getElem?_eq_some_iff.1 hk).1
   rw [List.getElem?_map,List.getElem?_range' hlt] at h2
   simp at h2
   omega
open Go.Proofs
def riH (t:Nat) (out:List RI):Heap:=[(2000,.own t 16 (out.map fun i => .agg i.cells))]
theorem z7a {t:Nat} {out:List RI} {x:RI}:riH t (out++[x])=[(2000,.own t 16 ((out.map fun i => .agg i.cells)++[.agg x.cells]))]:=by simp [riH]
theorem WP (l:List RI):(l.map fun i=>AV.agg i.cells).length=l.length:=List.length_map _
theorem z5d {i:Int} {e:Bool} {l:List S} {j:Nat} {o:List RI} (hj:j<l.length) (h:o.length≤200):flF 0 i e (l.drop j) o=flF 0 i e (l.drop (j+1)) (o++[⟨l[j],13,i,e⟩]):=by
 rw [QJ hj]
 show flF 0 i e (l.drop (j+1)) (if o.length≤200 then _ else _)=_
 rw [if_pos h]
theorem z7w {m:Nat} {i:Int} {e:Bool} {l:List S} {j:Nat} {o:List RI} (hj:j<l.length) (h:o.length≤200):flF (m+1) i e (l.drop j) o=flF (m+1) i e (l.drop (j+1)) (flF m l[j].id true l[j].els (flF m l[j].id false l[j].thn (o++[RI.mk l[j] (13-((m+1:Nat):Int)) i e]))):=by
 rw [QJ hj]
 show flF (m+1) i e (l.drop (j+1)) (if o.length≤200 then _ else _)=_
 rw [if_pos h]
theorem q2r : ∀ (m:Nat) {i:Int} {e:Bool} {l:List S} {o:List RI},¬o.length≤200→flF m i e l o=o
 | 0,i,e,[],o,_=>rfl
 | m+1,i,e,[],o,_=>rfl
 | 0,i,e,s::r,o,h=>by
   show flF 0 i e r (if o.length≤200 then _ else o)=o
   rw [if_neg h]
   exact q2r 0 h
 | m+1,i,e,s::r,o,h=>by
   show flF (m+1) i e r (if o.length≤200 then _ else o)=o
   rw [if_neg h]
   exact q2r (m+1) h
theorem z3w (m:Nat) {i:Int} {e:Bool} {o:List RI}:flF m i e [] o=o:=by cases m<;>rfl
theorem q0f : ∀ (m:Nat) (_:m≤12) (l:List S) (i:Int) (e:Bool) (out:List RI),
  SpecH Tryz.prog 155 [.p (eSs l),.p (.int .i64 (13-(m:Int))),.p (.int .i64 i),.p (.bool e),.hd 2000 0 out.length] (riH 103 out)
   (fun r H=>r = .hd 2000 0 (flF m i e l out).length∧H=riH 103 (flF m i e l out)):=by
 intro m
 induction m with
 | zero =>
   intro _ l i e out
   have hll:=S.avs_len l
   refine SpecH.body YB QQ Tryz.func155 rfl Tryz.call155 (by show 5≤_;decide) ?_
   conv=>whnf
   skip
   refine LoopK.inv QQ (fun x:Nat×List RI=>⟨[(0,.p (eSs l)),(1,.p (.int .i64 (13-((0:Nat):Int)))),(2,.p (.int .i64 i)),(3,.p (.bool e)),(4,.hd 2000 0 x.2.length),(11,.p (.int .i64 x.1))],riH 103 x.2⟩) (fun x=>x.1≤l.length∧flF 0 i e (l.drop x.1) x.2=flF 0 i e l out) (fun x=>l.length-x.1) (0,out) (Le.of_eq rfl) ⟨Nat.zero_le _,rfl⟩ ?_
   rintro ⟨j,o⟩ ⟨h2,h3⟩
   simp only at h2 h3 ⊢
   have hol:=WP o
   rcases Nat.lt_or_ge j l.length with hj|hj
   ·conv=>whnf
    repeat' (first|((first|intro (_:_≤9223372036854775807)|refine And.intro rfl ?_|(refine And.intro ⟨by decide,by decide⟩ ?_)|refine BsK.pure (fun x hx=>by rcases List.mem_singleton.1 hx with rfl;rfl) rfl ?_|refine IdxK.ss (by omega) ?_|refine Wr.i64 (by omega) (by omega) ?_|refine AppK.mk (by simp) rfl (by show (o.length+1)*232≤140737488355328;omega) (by show o.length+1≤9223372036854775807;omega) (fun x hx=>by rcases List.mem_singleton.1 hx with rfl;exact ⟨rfl,rfl⟩) ?_);conv=>whnf)|(refine Br.dec (fun _=>?_) (fun _=>?_)<;>first|(exfalso;omega)|conv=>whnf))
    ·exact ⟨(j+1,o++[⟨l[j],13,i,e⟩]),⟨hj,by rw [← h3,z5d hj (by omega)]⟩,by simp only;omega,Le.of_eq (by simp only [z7a,List.length_append,List.length_singleton];rfl)⟩
    ·rw [q2r 0 (by omega)] at h3
     exact ⟨_,.refl _,by rw [← h3];exact ⟨rfl,rfl⟩⟩
   ·conv=>whnf
    repeat' (first|(intro (_:_≤9223372036854775807);conv=>whnf)|(refine Br.dec (fun _=>?_) (fun _=>?_)<;>first|(exfalso;omega)|conv=>whnf))
    rw [List.drop_eq_nil_of_le hj,z3w] at h3
    exact ⟨_,.refl _,by rw [← h3];exact ⟨rfl,rfl⟩⟩
 | succ m ih =>
   intro hm l i e out
   have hll:=S.avs_len l
   refine SpecH.body YB QQ Tryz.func155 rfl Tryz.call155 (by show 5≤_;decide) ?_
   conv=>whnf
   skip
   refine LoopK.inv QQ (fun x:Nat×List RI=>⟨[(0,.p (eSs l)),(1,.p (.int .i64 (13-((m+1:Nat):Int)))),(2,.p (.int .i64 i)),(3,.p (.bool e)),(4,.hd 2000 0 x.2.length),(11,.p (.int .i64 x.1))],riH 103 x.2⟩) (fun x=>x.1≤l.length∧flF (m+1) i e (l.drop x.1) x.2=flF (m+1) i e l out) (fun x=>l.length-x.1) (0,out) (Le.of_eq rfl) ⟨Nat.zero_le _,rfl⟩ ?_
   rintro ⟨j,o⟩ ⟨h2,h3⟩
   simp only at h2 h3 ⊢
   have hol:=WP o
   rcases Nat.lt_or_ge j l.length with hj|hj
   ·conv=>whnf
    repeat' (first|((first|intro (_:_≤9223372036854775807)|refine DrawK.auto QQ mixed (by kernel_rfl) ?_|refine And.intro rfl ?_|(refine And.intro ⟨by decide,by decide⟩ ?_)|refine BsK.pure (fun x hx=>by rcases List.mem_singleton.1 hx with rfl;rfl) rfl ?_|refine IdxK.ss (by omega) ?_|refine Wr.i64 (by omega) (by omega) ?_|refine AppK.mk (by simp) rfl (by show (o.length+1)*232≤140737488355328;omega) (by show o.length+1≤9223372036854775807;omega) (fun x hx=>by rcases List.mem_singleton.1 hx with rfl;exact ⟨rfl,rfl⟩) ?_);conv=>whnf)|(refine Br.dec (fun _=>?_) (fun _=>?_)<;>first|(exfalso;omega)|conv=>whnf))
    ·refine CallK.heap [(2000,2000)] 0 (ArgsH.cons (LSub.refl _) (ArgsH.cons (LSub.p (Sub.int (by omega))) (ArgsH.cons (LSub.refl _) (ArgsH.cons (LSub.p (Sub.ff rfl)) (ArgsH.cons (LSub.of_eq (by rw [List.length_append];rfl)) ArgsH.nil))))) (by exact BlksH.cons (j:=2000) rfl rfl (CSub.of_eq (by rw [List.map_append];first|done|rfl)) BlksH.nil) (ih (by omega) l[j].thn l[j].id false (o++[RI.mk l[j] (13-((m+1:Nat):Int)) i e])) rfl rfl ?_
     rintro l' H' ⟨rfl,rfl⟩
     conv=>whnf
     repeat' ((first|refine DrawK.auto QQ mixed (by kernel_rfl) ?_|refine IdxK.ss (by omega) ?_|refine Wr.i64 (by omega) (by omega) ?_);conv=>whnf)
     refine CallK.heap [(2000,2000)] 0 (ArgsH.cons (LSub.refl _) (ArgsH.cons (LSub.p (Sub.int (by omega))) (ArgsH.cons (LSub.refl _) (ArgsH.cons (LSub.p (Sub.tt rfl)) (ArgsH.cons (LSub.refl _) ArgsH.nil))))) (by exact BlksH.cons (j:=2000) rfl rfl (CSub.refl _) BlksH.nil) (ih (by omega) l[j].els l[j].id true (flF m l[j].id false l[j].thn (o++[RI.mk l[j] (13-((m+1:Nat):Int)) i e]))) rfl rfl ?_
     rintro l' H' ⟨rfl,rfl⟩
     conv=>whnf
     repeat' (refine Wr.i64 (by omega) (by omega) ?_;conv=>whnf)
     exact ⟨(j+1,flF m l[j].id true l[j].els (flF m l[j].id false l[j].thn (o++[RI.mk l[j] (13-((m+1:Nat):Int)) i e]))),⟨hj,by rw [← h3,z7w hj (by omega)]⟩,by simp only;omega,Le.of_eq rfl⟩
    ·rw [q2r (m+1) (by omega)] at h3
     exact ⟨_,.refl _,by rw [← h3];exact ⟨rfl,rfl⟩⟩
   ·conv=>whnf
    repeat' (first|(intro (_:_≤9223372036854775807);conv=>whnf)|(refine Br.dec (fun _=>?_) (fun _=>?_)<;>first|(exfalso;omega)|conv=>whnf))
    rw [List.drop_eq_nil_of_le hj,z3w] at h3
    exact ⟨_,.refl _,by rw [← h3];exact ⟨rfl,rfl⟩⟩
theorem QN (f:Pr):SpecP Tryz.prog 97 [.agg f.cells] (fun r=>r=KT (ZV f)):=by
 refine SpecP.body PA QQ Tryz.func97 rfl Tryz.call97 (by show 1≤_;decide) ?_
 conv=>whnf
 skip
 refine CallK.nil 5 103 16 rfl (.cons rfl (.cons rfl (.cons rfl (.cons rfl (.row .nil))))) ?_
 refine CallK.heap [(2000,5)] 0 (by repeat' (first|exact ArgsH.nil|refine ArgsH.cons ?_ ?_|exact LSub.refl _|exact LSub.p Sub.nils|exact LSub.p (Sub.tt rfl)|exact LSub.p (Sub.ff rfl)|exact LSub.p (Sub.int (by omega)))) (by refine BlksH.cons (j:=5) rfl rfl ?_ ?_;exact CSub.refl _;exact BlksH.nil) (q0f 12 (by omega) f.body 0 false []) rfl rfl ?_
 rintro l' H' ⟨rfl,rfl⟩
 conv=>whnf
 exact ⟨_,.hd rfl (by simp [ZV]),rfl⟩
theorem x9c {l:List Pr} {j:Nat} {o:List RI} (hj:j<l.length) (h:o.length≤200):HI (l.drop j) o=HI (l.drop (j+1)) (o++ZV l[j]):=by
 rw [QJ hj]
 show HI (l.drop (j+1)) (if o.length≤200 then _ else _)=_
 rw [if_pos h]
theorem q6i : ∀ {l:List Pr} {o:List RI},¬o.length≤200→HI l o=o
 | [],o,_=>rfl
 | f::r,o,h=>by
   show HI r (if o.length≤200 then _ else o)=o
   rw [if_neg h]
   exact q6i h
theorem YW (f:Pr):(ZV f).length≤201:=by
 have:=(FV 12 0 false f.body []).2
 simpa [ZV] using this
theorem UG (p:Pg):SpecP Tryz.prog 115 [.agg p.cells] (fun r=>r=KT (allR p)):=by
 refine SpecP.body MH QQ Tryz.func115 rfl Tryz.call115 (by show 1≤_;decide) ?_
 conv=>whnf
 repeat' (intro (_:_≤9223372036854775807);conv=>whnf)
 have hl2:(p.procs.map fun f=>AV.agg f.cells).length=p.procs.length:=List.length_map _
 refine LoopK.inv QQ (fun x:Nat×List RI=>⟨[(3,.hd 1 0 x.2.length),(7,.p (.sl (p.procs.map fun f => .agg f.cells))),(8,.p (.int .i64 (p.procs.map fun f=>AV.agg f.cells).length)),(9,.p (.int .i64 x.1))],[(1,.own 103 16 (x.2.map fun i => .agg i.cells))]⟩) (fun x=>x.1≤p.procs.length∧x.2.length≤200∧HI (p.procs.drop x.1) x.2=allR p) (fun x=>p.procs.length-x.1) (0,[])
  (Le.mk [(1,.own 103 16 [])] (by simp [Chunk.new0];rfl) (by simp) (by simp) (.cons (.nil List.mem_cons_self) (.cons (.refl _) (.cons (.refl _) (.cons (.refl _) .nil)))) (.new List.mem_cons_self .nil)) ⟨Nat.zero_le _,Nat.zero_le _,rfl⟩ ?_
 rintro ⟨j,o⟩ ⟨h2,h4,h3⟩
 simp only at h2 h3 h4 ⊢
 have hol:=WP o
 rcases Nat.lt_or_ge j p.procs.length with hj|hj
 ·have hfl:=YW p.procs[j]
  have hst:=fun (h:o.length≤200)=>x9c hj h
  have hF:=QN p.procs[j]
  generalize hL:ZV p.procs[j]=L at hfl hst hF
  have hfl2:=WP L
  conv=>whnf
  repeat' (first|((first|intro (_:_≤9223372036854775807)|refine And.intro rfl ?_|(refine And.intro ⟨by decide,by decide⟩ ?_)|refine IdxK.map (by omega) (fun _=>rfl) ?_|refine Wr.i64 (by omega) (by omega) ?_|(refine CallK.pure hF (.cons (Sub.refl _) .nil) ?_;rintro _ rfl)|refine AppK.mk (by simp) rfl (by rw [hfl2];show (o.length+L.length)*232≤140737488355328;omega) (by rw [hfl2];show o.length+L.length≤9223372036854775807;omega) (fun x hx=>by obtain ⟨y,_,rfl⟩:=List.mem_map.1 hx;exact ⟨rfl,rfl⟩) ?_);conv=>whnf)|(refine Br.dec (fun _=>?_) (fun _=>?_)<;>first|(exfalso;omega)|conv=>whnf))
  ·refine ⟨_,.hd rfl (by simp),?_⟩
   rw [← h3,hst h4,q6i (by simp;omega),← List.map_append]
   rfl
  ·exact ⟨(j+1,o++L),⟨hj,by simp;omega,by rw [← h3,hst h4]⟩,by simp only;omega,Le.of_eq (by simp only [List.length_append,List.map_append,List.length_map];rfl)⟩
 ·conv=>whnf
  repeat' (refine Br.dec (fun _=>?_) (fun _=>?_)<;>first|(exfalso;omega)|conv=>whnf)
  rw [List.drop_eq_nil_of_le hj] at h3
  refine ⟨_,.hd rfl (by simp),?_⟩
  rw [← h3]
  simp [KT,HI]
open Go.Proofs
def x9z (n k:Int):Int:=if k<1 then 0 else if n.tmod k<0 then n.tmod k+k else n.tmod k
theorem x6y {n k:Int} (hk:0<k):0≤x9z n k∧x9z n k<k:=by
 unfold x9z
 have h1:=Int.tmod_lt_of_pos n hk
 have h2 : -k<n.tmod k:=by
  rcases Int.le_total 0 n with h|h
  ·have:=Int.tmod_nonneg k h;omega
  ·have h3:=Int.tmod_lt_of_pos (-n) hk
   rw [Int.neg_tmod] at h3
   omega
 rw [if_neg (by omega)]
 split<;>omega
theorem q2d (n k:Int) (hk:k≤1000000):SpecP Tryz.prog 81 [.int .i64 n,.int .i64 k] (fun r=>r = .int .i64 (x9z n k)):=by
 refine SpecP.body MU QQ Tryz.func81 rfl Tryz.call81 (by show 2≤_;decide) ?_
 conv=>whnf
 have h1:=fun h:0<k=>x6y (n:=n) h
 repeat' (first|(refine And.intro (by omega) ?_;conv=>whnf)|(refine Br.dec (fun _=>?_) (fun _=>?_)<;>first|(exfalso;omega)|conv=>whnf))
 all_goals first
  | (refine Wr.i64 (by have:=h1 (by omega);unfold x9z at this;rw [if_neg (by omega),if_pos (by assumption)] at this;omega) (by have:=h1 (by omega);unfold x9z at this;rw [if_neg (by omega),if_pos (by assumption)] at this;omega) ?_
     conv=>whnf
     exact RetK.int (by unfold x9z;rw [if_neg (by assumption),if_pos (by assumption)]))
  | exact RetK.int (by unfold x9z;rw [if_pos (by assumption)])
  | exact RetK.int (by unfold x9z;rw [if_neg (by assumption),if_neg (by assumption)])
def x3j (l:List Int) (x:Int):Bool:=l.any fun y=>decide (x=y)
theorem XO (l:List Int) (x:Int):SpecP Tryz.prog 98 [ZQ l,.int .i64 x] (fun r=>r = .bool (x3j l x)):=by
 refine SpecP.body PT QQ Tryz.func98 rfl Tryz.call98 (by show 2≤_;decide) ?_
 conv=>whnf
 repeat' (intro (_:_≤9223372036854775807);conv=>whnf)
 have hl:(l.map (AV.int .i64)).length=l.length:=List.length_map _
 refine LoopK.inv QQ (fun j:Nat=>⟨[(1,.p (.int .i64 x)),(7,.p (ZQ l)),(8,.p (.int .i64 (l.map (AV.int .i64)).length)),(9,.p (.int .i64 j))],[]⟩) (fun j=>j≤l.length∧(l.drop j).any (fun y=>decide (x=y))=x3j l x) (fun j=>l.length-j) 0 (Le.of_eq rfl) ⟨Nat.zero_le _,rfl⟩ ?_
 rintro j ⟨h2,h3⟩
 rcases Nat.lt_or_ge j l.length with hj|hj
 ·conv=>whnf
  repeat' (first|((first|refine IdxK.map (by omega) (fun _=>rfl) ?_|refine Wr.i64 (by omega) (by omega) ?_);conv=>whnf)|(refine Br.dec (fun _=>?_) (fun _=>?_)<;>first|(exfalso;omega)|conv=>whnf))
  all_goals first
   | exact RetK.tt (by rw [← h3,q0l hj (by simp_all)])
   | exact ⟨j+1,⟨hj,by rw [LW hj (by simp;omega)];exact h3⟩,by omega,Le.of_eq rfl⟩
 ·conv=>whnf
  repeat' (refine Br.dec (fun _=>?_) (fun _=>?_)<;>first|(exfalso;omega)|conv=>whnf)
  exact RetK.ff (by rw [← h3,GW hj])
def inS (l:List Str) (x:Str):Bool:=l.any fun y=>y==x
theorem QB (l:List Str) (x:Str):SpecP Tryz.prog 56 [QH l,.str x] (fun r=>r = .bool (inS l x)):=by
 refine SpecP.body q0u QQ Tryz.func56 rfl Tryz.call56 (by show 2≤_;decide) ?_
 conv=>whnf
 repeat' (intro (_:_≤9223372036854775807);conv=>whnf)
 have hl:(l.map AV.str).length=l.length:=List.length_map _
 refine LoopK.inv QQ (fun j:Nat=>⟨[(0,.p (QH l)),(1,.p (.str x)),(7,.p (.int .i64 (l.map AV.str).length)),(8,.p (.int .i64 j))],[]⟩) (fun j=>j≤l.length∧(l.drop j).any (fun y=>y==x)=inS l x) (fun j=>l.length-j) 0 (Le.of_eq rfl) ⟨Nat.zero_le _,rfl⟩ ?_
 rintro j ⟨h2,h3⟩
 rcases Nat.lt_or_ge j l.length with hj|hj
 ·conv=>whnf
  repeat' (first|((first|refine IdxK.map (by omega) (fun _=>rfl) ?_|refine Wr.i64 (by omega) (by omega) ?_);conv=>whnf)|(refine Br.dec (fun _=>?_) (fun _=>?_)<;>first|(exfalso;omega)|conv=>whnf)|(refine Br.b (fun _=>?_) (fun _=>?_)<;>conv=>whnf))
  ·exact RetK.tt (by rw [← h3,q0l hj (by assumption)])
  ·exact ⟨j+1,⟨hj,by rw [LW hj (by assumption)];exact h3⟩,by omega,Le.of_eq rfl⟩
 ·conv=>whnf
  repeat' (refine Br.dec (fun _=>?_) (fun _=>?_)<;>first|(exfalso;omega)|conv=>whnf)
  exact RetK.ff (by rw [← h3,GW hj])
def VJ (p:Pg) (n:Int):Str:=match p.procs[(x9z n p.procs.length).toNat]? with
 | some f=>f.name
 | none=>[]
theorem NG (p:Pg) (n:Int) (hp:p.procs.length≤20000):SpecP Tryz.prog 19 [.agg p.cells,.int .i64 n] (fun r=>r = .str (VJ p n)):=by
 refine SpecP.body HM QQ Tryz.func19 rfl Tryz.call19 (by show 2≤_;decide) ?_
 conv=>whnf
 have hl:(p.procs.map fun f=>AV.agg f.cells).length=p.procs.length:=List.length_map _
 have hr:=fun h:0<(p.procs.length:Int)=>x6y (n:=n) h
 repeat' (first|((first|intro (_:_≤9223372036854775807)|refine DrawK.auto QQ mixed (by kernel_rfl) ?_|(refine CallK.pure (q2d n (p.procs.length:Int) (by omega)) (.cons (Sub.refl _) (.cons (Sub.int (by omega)) .nil)) ?_;rintro _ rfl));conv=>whnf)|(refine Br.dec (fun _=>?_) (fun _=>?_)<;>first|(exfalso;omega)|conv=>whnf))
 ·refine RetK.p ?_
  have h0:p.procs=[]:=List.length_eq_zero_iff.1 (by omega)
  unfold VJ
  rw [h0]
  rfl
 ·obtain ⟨h1,h2⟩:=hr (by omega)
  have hlt:(x9z n p.procs.length).toNat<p.procs.length:=by omega
  refine IdxK.at (k:=(x9z n p.procs.length).toNat) (e := .agg p.procs[(x9z n p.procs.length).toNat].cells) (by omega) (by rw [List.getElem?_map,List.getElem?_eq_getElem hlt];rfl) rfl ?_
  conv=>whnf
  skip
  exact RetK.p (by unfold VJ;rw [List.getElem?_eq_getElem hlt])
def z4b (a b:Int):Bool:=bif decide (a = -1)||decide (b = -1) then decide (b = -1) && !decide (a = -1) else decide (a<b)
theorem YN (a b:Int):SpecP Tryz.prog 147 [.int .i64 a,.int .i64 b] (fun r=>r = .bool (z4b a b)):=by
 refine SpecP.body HF QQ Tryz.func147 rfl Tryz.call147 (by show 2≤_;decide) ?_
 conv=>whnf
 repeat' (refine Br.dec (fun _=>?_) (fun _=>?_)<;>first|(exfalso;omega)|conv=>whnf)
 all_goals first
  | exact RetK.bool (by unfold z4b;simp_all)
  | exact RetK.ff (by unfold z4b;simp_all)
  | exact RetK.bool (by unfold z4b;simp_all;omega)
open Go.Proofs
theorem HE {α β:Type} {f:α→β} : ∀ {l:List α},(l.map f).Nodup → ∀ a∈l,∀ b∈l,f a=f b→a=b
 | [],_,a,ha,_,_,_=>by cases ha
 | c::r,h,a,ha,b,hb,e=>by
   rw [List.map_cons,List.nodup_cons] at h
   rcases List.mem_cons.1 ha with ha1|ha1
   ·rcases List.mem_cons.1 hb with hb1|hb1
    ·rw [ha1,hb1]
    ·exact (h.1 (List.mem_map.2 ⟨b,hb1,by rw [← e,ha1]⟩)).elim
   ·rcases List.mem_cons.1 hb with hb1|hb1
    ·exact (h.1 (List.mem_map.2 ⟨a,ha1,by rw [e,hb1]⟩)).elim
    ·exact HE h.2 a ha1 b hb1 e
theorem YG {α:Type} [DecidableEq α] : ∀ {l m:List α},l.Nodup→(∀ s∈l,s∈m)→l.length≤m.length
 | [],m,_,_=>Nat.zero_le _
 | a::r,m,h,hs=>by
   rw [List.nodup_cons] at h
   have ha:=hs a List.mem_cons_self
   have h1:=YG (m:=m.erase a) h.2 fun s hsr=>(List.mem_erase_of_ne (fun e=>h.1 (by rw [← e];exact hsr))).2 (hs s (List.mem_cons_of_mem _ hsr))
   rw [List.length_erase_of_mem ha] at h1
   have:=List.length_pos_of_mem ha
   simp only [List.length_cons]
   omega
theorem q0x (n c:Nat):(KH n c).Nodup:=by
 unfold KH List.Nodup
 rw [List.pairwise_map]
 exact List.Pairwise.imp (fun h e=>h (by omega)) (List.nodup_range' (s:=n+1) (n:=c) (step:=1))
theorem z0z {p:Pg} (hm:WM p=true) {j:Nat} {f:Pr} (hj:p.procs[j]? = some f):(QS p j f).map (fun it=>it.s.id)=KH (QT p.procs j) (QY f.body):=by
 rw [← x0g hm hj,← ND (j:Nat) 0 (-1) 0 (QT p.procs j) f.body,List.map_map]
 rfl
theorem z9s {p:Pg} (hm:WM p=true) {j:Nat} {f:Pr} (hj:p.procs[j]? = some f) {a b:Item} (ha:a∈QS p j f) (hb:b∈QS p j f) (h:a.s.id=b.s.id):a=b :=
 HE (f:=fun it:Item=>it.s.id) (by rw [z0z hm hj];exact q0x _ _) a ha b hb h
theorem w1y {p:Pg} {j:Nat} {f:Pr} {t:S} (h:t∈flL f.body) : ∃ it∈QS p j f,it.s=t:=by
 rw [← ND (j:Nat) 0 (-1) 0 (QT p.procs j) f.body] at h
 obtain ⟨it,h1,h2⟩:=List.mem_map.1 h
 exact ⟨it,h1,h2⟩
theorem x3v (sh:Sheet) (f:Pr) (it:Item):1≤(ZR sh f it).length∧(ZR sh f it).length≤2∧((ZR sh f it).length=2→it.s.kind=5∨it.s.kind=6):=by
 unfold ZR
 split
 ·rename_i h;exact ⟨by simp,by simp,fun _ => .inl h⟩
 split
 ·rename_i h;exact ⟨by simp,by simp,fun _ => .inr h⟩
 split
 ·simp
 split
 ·simp
 split
 ·simp
 split<;>simp
theorem z4o {l:List Step} (h:l.Pairwise MY):l.Nodup:=h.imp fun h e=>by subst e;exact GF h
theorem DK {l:List Int} {x:Int}:x3j l x=true↔x∈l:=by
 unfold x3j
 rw [List.any_eq_true]
 refine ⟨fun ⟨y,h1,h2⟩=>by simp at h2;exact h2▸h1,fun h=>⟨x,h,by simp⟩⟩
end Go.Ab
