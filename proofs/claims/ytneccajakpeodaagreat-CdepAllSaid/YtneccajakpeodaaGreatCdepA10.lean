/- scope: the first name that stands for nothing. -/
import Derived.Test.YtneccajakpeodaaGreatCdepA9
set_option linter.unusedSimpArgs false
set_option linter.unusedVariables false
set_option maxRecDepth 100000
set_option maxHeartbeats 16000000
namespace Go.Ab
open Go.Proofs
def DI (c at_:Int):AV := .agg [.int .i64 c,.int .i64 at_]
def procsN (p:Pg):List Str:=p.procs.map Pr.name
def ZH (p:Pg):Bool:=XY p.globals||(XY (procsN p)||(!((procsN p).any fun s=>mainS==s)||match p.procs.find? (fun f=>mainS==f.name) with
 | some f=>decide (0<f.params.length)
 | none=>true))
def WM (p:Pg) (f:Pr):Option Int :=
 bif XY (x5s f)||(x5s f).any (fun n=>p.globals.any fun s=>n==s) then some 0 else ((flL f.body).find? fun t => !knownB p f (procsN p) t).map S.id
def QS (p:Pg):Int×Int :=
 bif WI p then bif ZH p then (5,0) else match p.procs.findSome? (WM p) with
  | some a=>(5,a)
  | none=>(0,0)
 else (1,0)
theorem z1s {α:Type} {l:List α} {p:α→Bool} (h:l.any p=true) : ∃ (k:Nat) (hk:k<l.length),q9a p l=k∧p l[k]=true∧l.find? p=some l[k]:=by
 have h1:l.findIdx p<l.length:=by
  rw [List.findIdx_lt_length]
  exact List.any_eq_true.1 h
 refine ⟨l.findIdx p,h1,by unfold q9a;rw [h];rfl,List.findIdx_getElem,?_⟩
 rw [List.find?_eq_some_iff_getElem]
 exact ⟨List.findIdx_getElem,l.findIdx p,h1,rfl,fun j hj=>by simpa using List.not_of_lt_findIdx hj⟩
theorem w0e {p:Pg} (h:(procsN p).any (fun s=>mainS==s)=true) : ∃ (k:Nat) (hk:k<p.procs.length),q9a (fun s=>mainS==s) (procsN p)=k∧p.procs.find? (fun f=>mainS==f.name)=some p.procs[k]:=by
 have h':p.procs.any (fun f=>mainS==f.name)=true:=by simpa [procsN,List.any_map,Function.comp_def] using h
 obtain ⟨k,hk,h1,_,h2⟩:=z1s h'
 refine ⟨k,hk,?_,h2⟩
 rw [← h1]
 unfold q9a
 rw [h,h']
 simp [procsN,List.findIdx_map,Function.comp_def]
theorem x9w (p:Pg) {j:Nat} {f:Pr} (hj:p.procs[j]? = some f) (hc:cntP p.procs≤1000):SpecP Tryz.prog 159 [.ip (sheetOf p).cells,.int .i64 j] (fun r=>r=JI (itL j 0 (-1) 0 (QN p.procs j) f.body)):=by
 obtain ⟨_,h2,h3,h4,h5⟩:=QJ p
 obtain ⟨h6,h7,h8,h9⟩:=h5 j f hj
 have:=x2i (sheetOf p) j _ _ h6 h7 (by omega) (by omega) (by omega)
 rw [h9] at this
 exact this
theorem WJ (l:List Item):(l.map fun i=>AV.agg i.cells).length=l.length:=List.length_map _
theorem q6h {α β:Type} {l:List α} {f:α→Option β} {j:Nat} (hj:j<l.length) (h:f l[j]=none):(l.drop (j+1)).findSome? f=(l.drop j).findSome? f:=by
 rw [QG hj,List.findSome?_cons,h]
theorem VV {α β:Type} {l:List α} {f:α→Option β} {j:Nat} {b:β} (hj:j<l.length) (h:f l[j]=some b):(l.drop j).findSome? f=some b:=by
 rw [QG hj,List.findSome?_cons,h]
theorem q3p {α β:Type} {l:List α} {f:α→Option β} {j:Nat} (hj:l.length≤j):(l.drop j).findSome? f=none:=by
 rw [List.drop_eq_nil_of_le hj];rfl
theorem PX {q:S→Bool} (l:List Item):(l.find? fun it=>q it.s).map (fun it=>it.s.id)=((l.map Item.s).find? q).map S.id:=by
 rw [List.find?_map]
 cases h:l.find? (q∘Item.s) with
 | none=>rw [show (l.find? fun it=>q it.s)=none from h];rfl
 | some i=>rw [show (l.find? fun it=>q it.s)=some i from h];rfl
theorem w0u {l:List Pr} {j:Nat} (hj:j<l.length) (h:wPr l[j]≤20000) {a b c d:Int} {n k:Nat} (hk:k<(itL a b c d n l[j].body).length):(itL a b c d n l[j].body)[k].s.args.length≤20000:=by
 have hm:(itL a b c d n l[j].body)[k].s∈flL l[j].body:=by
  rw [← MK a b c d n]
  exact List.mem_map.2 ⟨_,List.getElem_mem hk,rfl⟩
 have h1:=q6p _ _ hm
 have h2:=x2l (itL a b c d n l[j].body)[k].s
 have h3:=JV (itL a b c d n l[j].body)[k].s.args
 unfold wPr at h
 omega
theorem RetK.fault {H:Heap} {a b c d:Int} (h:a=c) (h':b=d):RetK H (.p (.agg [.int .i64 a,.int .i64 b])) (fun r=>r=DI c d):=⟨_,.p (Sub.refl _),by rw [h,h'];rfl⟩
theorem JN (p:Pg) (hf:Fit p):SpecP Tryz.prog 137 [.agg p.cells] (fun r=>r=DI (QS p).1 (QS p).2):=by
 refine SpecP.body x1e QQ Tryz.func137 rfl Tryz.call137 (by show 1≤_;decide) ?_
 conv=>whnf
 repeat' (first|((first|intro (_:_≤9223372036854775807)|(refine CallK.pure (z0d _) (by repeat' (first|exact ArgP.nil|refine ArgP.cons ?_ ?_|exact Sub.refl _|exact Sub.tt rfl|exact Sub.ff rfl)) ?_;rintro _ rfl)|refine And.intro rfl ?_);conv=>whnf)|(refine Br.n (fun _=>?_) (fun _=>?_)<;>conv=>whnf))
 rotate_left 1
 ·exact RetK.fault (by simp [QS, *]) (by simp [QS, *])
 have hm:WI p=true:=by assumption
 obtain ⟨hg,hpl,hcn⟩:=ZX hm
 have hl:(p.procs.map fun f=>AV.agg f.cells).length=p.procs.length:=List.length_map _
 have hnl:(procsN p).length=p.procs.length:=by simp [procsN]
 refine LoopK.inv QQ (fun i:Nat×List Str=>⟨[(1,.p (.ip p.cells)),(2,.ptr 1 0),(3,.hd 0 0 i.2.length),(18,.p (.sl (p.procs.map fun f => .agg f.cells))),(19,.p (.int .i64 (p.procs.map fun f=>AV.agg f.cells).length)),(20,.p (.int .i64 i.1))],[(0,.own 9 1 (i.2.map .str)),(1,.obj 90 [.p (.int .i64 0),.p (.int .i64 0)])]⟩)
  (fun i=>i.1≤p.procs.length∧i.2=(procsN p).take i.1) (fun i=>p.procs.length-i.1) (0,[])
  (Le.mk [(0,.own 9 1 [])] (by simp [Chunk.new0];rfl) (by simp) (by simp) (.cons (.refl _) (.cons (.refl _) (.cons (.nil List.mem_cons_self) (.cons (.refl _) (.cons (.refl _) (.cons (.refl _) .nil)))))) (.new List.mem_cons_self (.cons rfl (.refl _) .nil)))
  ⟨Nat.zero_le _,by simp⟩ ?_
 rintro ⟨j,acc⟩ ⟨h2,h3⟩
 simp only at h2 h3 ⊢
 have hal:acc.length≤16:=by rw [h3];simp;omega
 conv=>whnf
 repeat' (first|((first|refine And.intro rfl ?_|(refine And.intro ⟨by decide,by decide⟩ ?_)|refine BsK.pure (fun x hx=>by rcases List.mem_singleton.1 hx with rfl;rfl) rfl ?_|refine IdxK.map (by omega) (fun _=>rfl) ?_|refine Wr.i64 (by omega) (by omega) ?_|refine AppK.str1 (by simp) (by simp;omega) ?_|(refine CallK.borrow (WZ acc mainS) (.cons (.hd rfl (by simp)) (.cons (.p (Sub.refl _)) .nil)) (by rintro _ rfl;rfl) ?_;rintro _ rfl)|(refine CallK.borrow (NO acc) (.cons (.hd rfl (by simp)) .nil) (by rintro _ rfl;rfl) ?_;rintro _ rfl)|(refine CallK.pure (NO _) (.cons (Sub.refl _) .nil) ?_;rintro _ rfl));conv=>whnf)|(refine Br.dec (fun _=>?_) (fun _=>?_)<;>first|(exfalso;omega)|conv=>whnf)|(refine Br.b (fun _=>?_) (fun _=>?_)<;>conv=>whnf))
 ·exact ⟨(j+1,acc++[p.procs[j].name]),⟨by simp only;omega,by simp only;rw [h3,List.take_succ_eq_append_getElem (by omega)];simp [procsN]⟩,by simp only;omega,Le.of_eq (by simp only [List.length_append,List.map_append];rfl)⟩
 all_goals
  have hacc:acc=procsN p:=by rw [h3,List.take_of_length_le (by omega)]
  clear h3
  subst hacc
 ·have hb:ZH p=true:=by unfold ZH;rw [show XY p.globals=true by assumption];rfl
  exact RetK.fault (by unfold QS;rw [hm,hb];rfl) (by unfold QS;rw [hm,hb];rfl)
 ·have hb:ZH p=true:=by unfold ZH;rw [show XY p.globals=false by assumption,show XY (procsN p)=true by assumption];rfl
  exact RetK.fault (by unfold QS;rw [hm,hb];rfl) (by unfold QS;rw [hm,hb];rfl)
 ·have hany:((procsN p).any fun s=>mainS==s)=false:=by
   rw [← q5c]
   simp
   omega
  have hb:ZH p=true:=by unfold ZH;rw [show XY p.globals=false by assumption,show XY (procsN p)=false by assumption,hany];rfl
  exact RetK.fault (by unfold QS;rw [hm,hb];rfl) (by unfold QS;rw [hm,hb];rfl)
 have hany:((procsN p).any fun s=>mainS==s)=true:=by
  rw [← q5c]
  simp
  omega
 obtain ⟨k,hk,hik,hfind⟩:=w0e hany
 have hlk:(p.procs.map fun f=>AV.agg f.cells)[k]? = some (.agg p.procs[k].cells):=by simp [hk]
 have hpl2:(p.procs[k].params.map fun a=>AV.agg a.cells).length=p.procs[k].params.length:=List.length_map _
 refine IdxK.at hik hlk rfl ?_
 conv=>whnf
 repeat' (first|((first|intro (_:_≤9223372036854775807)|refine And.intro rfl ?_|(refine CallK.pure (YK p (by omega) (by omega)) (.cons (Sub.refl _) .nil) ?_;rintro _ rfl));conv=>whnf)|(refine Br.dec (fun _=>?_) (fun _=>?_)<;>first|(exfalso;omega)|conv=>whnf))
 ·have hb:ZH p=true:=by
   unfold ZH
   rw [show XY p.globals=false by assumption,show XY (procsN p)=false by assumption,hany,hfind]
   have:0<p.procs[k].params.length:=by omega
   simp [this]
  exact RetK.fault (by unfold QS;rw [hm,hb];rfl) (by unfold QS;rw [hm,hb];rfl)
 have hb:ZH p=false:=by
  unfold ZH
  rw [show XY p.globals=false by assumption,show XY (procsN p)=false by assumption,hany,hfind]
  have : ¬0<p.procs[k].params.length:=by omega
  simp [this]
 have hsc:QS p=match p.procs.findSome? (WM p) with
  | some a=>(5,a)
  | none=>(0,0):=by unfold QS;rw [hm,hb];rfl
 rw [hsc]
 refine LoopK.inv QQ (fun j:Nat=>⟨[(1,.p (.ip p.cells)),(2,.ptr 1 0),(3,.hd 0 0 (procsN p).length),(7,.p (.ip (sheetOf p).cells)),(57,.p (.sl (p.procs.map fun f => .agg f.cells))),(58,.p (.int .i64 (p.procs.map fun f=>AV.agg f.cells).length)),(59,.p (.int .i64 j))],[(0,.own 9 1 ((procsN p).map .str)),(1,.obj 90 [.p (.int .i64 0),.p (.int .i64 0)])]⟩)
  (fun j=>j≤p.procs.length∧(p.procs.drop j).findSome? (WM p)=p.procs.findSome? (WM p)) (fun j=>p.procs.length-j) 0 (Le.of_eq rfl) ⟨Nat.zero_le _,rfl⟩ ?_
 clear h2 hik hfind hlk hpl2
 rintro j ⟨h2,h3⟩
 rcases Nat.lt_or_ge j p.procs.length with hj|hj
 rotate_left 1
 ·have e:p.procs.findSome? (WM p)=none:=by rw [← h3,q3p hj]
  rw [e]
  conv=>whnf
  repeat' (first|(refine And.intro rfl ?_;conv=>whnf)|(refine Br.dec (fun _=>?_) (fun _=>?_)<;>first|(exfalso;omega)|conv=>whnf))
  exact RetK.fault rfl rfl
 have hfp:=hf.pr (List.getElem_mem hj)
 have hmp:=BX.1 (w6j hm (List.getElem_mem hj))
 conv=>whnf
 repeat' (first|((first|intro (_:_≤9223372036854775807)|(refine CallK.pure (NO _) (by repeat' (first|exact ArgP.nil|refine ArgP.cons ?_ ?_|exact Sub.refl _|exact Sub.tt rfl|exact Sub.ff rfl)) ?_;rintro _ rfl)|refine And.intro rfl ?_|refine IdxK.map (by omega) (fun _=>rfl) ?_|(refine CallK.pure (z5r (p.procs[j]'hj) (by have:=hmp.1;omega) (by have:=hmp.2.1;omega)) (.cons (Sub.refl _) .nil) ?_;rintro _ rfl)|(refine CallK.pure (VH (x5s (p.procs[j]'hj)) 193 (.ip p.cells) (fun n=>p.globals.any fun s=>n==s) (x3z p)) (.cons (Sub.refl _) (.cons (Sub.refl _) .nil)) ?_;rintro _ rfl)|(refine CallK.pure (x9w p (f:=p.procs[j]'hj) (by simp) (by omega)) (.cons (Sub.refl _) (.cons (Sub.refl _) .nil)) ?_;rintro _ rfl));conv=>whnf)|(refine Br.dec (fun _=>?_) (fun _=>?_)<;>first|(exfalso;omega)|conv=>whnf)|(refine Br.b (fun _=>?_) (fun _=>?_)<;>conv=>whnf))
 ·have e:WM p p.procs[j]=some 0:=by
   unfold WM
   rw [show XY (x5s p.procs[j])=true by assumption]
   rfl
  have e2:=VV hj e
  rw [h3] at e2
  rw [e2]
  exact RetK.fault rfl rfl
 ·have e:WM p p.procs[j]=some 0:=by
   unfold WM
   rw [show XY (x5s p.procs[j])=false by assumption,show ((x5s p.procs[j]).any fun n=>p.globals.any fun s=>n==s)=true by assumption]
   rfl
  have e2:=VV hj e
  rw [h3] at e2
  rw [e2]
  exact RetK.fault rfl rfl
 have hsa:WM p p.procs[j]=((flL p.procs[j].body).find? fun t => !knownB p p.procs[j] (procsN p) t).map S.id:=by
  unfold WM
  rw [show XY (x5s p.procs[j])=false by assumption,show ((x5s p.procs[j]).any fun n=>p.globals.any fun s=>n==s)=false by assumption]
  rfl
 have hitm : ∀ k (hk:k<(itL (j:Nat) 0 (-1) 0 (QN p.procs j) p.procs[j].body).length),(itL (j:Nat) 0 (-1) 0 (QN p.procs j) p.procs[j].body)[k].s.args.length≤20000:=fun k hk=>w0u hj hfp hk
 rw [← MK (j:Nat) 0 (-1) 0 (QN p.procs j),← PX] at hsa
 have hib:(itL (j:Nat) 0 (-1) 0 (QN p.procs j) p.procs[j].body).length≤20000:=by
  have:=z1i p.procs[j].body
  unfold wPr at hfp
  rw [XR]
  omega
 generalize hits:itL (j:Nat) 0 (-1) 0 (QN p.procs j) p.procs[j].body=its at hsa hitm hib ⊢
 have hil:=WJ its
 refine LoopK.inv QQ (fun k:Nat=>⟨[(1,.p (.ip p.cells)),(2,.ptr 1 0),(3,.hd 0 0 (procsN p).length),(7,.p (.ip (sheetOf p).cells)),(9,.p (.ip (p.procs[j]'hj).cells)),(57,.p (.sl (p.procs.map fun f => .agg f.cells))),(58,.p (.int .i64 (p.procs.map fun f=>AV.agg f.cells).length)),(59,.p (.int .i64 j)),(76,.p (JI its)),(77,.p (.int .i64 (its.map fun i=>AV.agg i.cells).length)),(78,.p (.int .i64 k))],[(0,.own 9 1 ((procsN p).map .str)),(1,.obj 90 [.p (.int .i64 0),.p (.int .i64 0)])]⟩)
  (fun k=>k≤its.length∧(its.drop k).find? (fun it => !knownB p p.procs[j] (procsN p) it.s)=its.find? fun it => !knownB p p.procs[j] (procsN p) it.s) (fun k=>its.length-k) 0 (Le.of_eq rfl) ⟨Nat.zero_le _,rfl⟩ ?_
 rintro k ⟨h5,h6⟩
 rcases Nat.lt_or_ge k its.length with hk|hk
 rotate_left 1
 ·rw [← h6,KW hk] at hsa
  conv=>whnf
  repeat' (first|(refine Wr.i64 (by omega) (by omega) ?_;conv=>whnf)|(refine Br.dec (fun _=>?_) (fun _=>?_)<;>first|(exfalso;omega)|conv=>whnf))
  exact ⟨j+1,⟨by omega,by rw [← h3,q6h hj hsa]⟩,by omega,Le.of_eq rfl⟩
 have hka:=hitm k hk
 conv=>whnf
 repeat' (first|((first|refine And.intro rfl ?_|refine IdxK.map (by omega) (fun _=>rfl) ?_|refine Wr.i64 (by omega) (by omega) ?_|(refine CallK.borrow (x8j p p.procs[j] (procsN p) its[k].s hka) (.cons (.p (Sub.refl _)) (.cons (.p (Sub.refl _)) (.cons (.hd rfl (by simp)) (.cons (.p (Sub.refl _)) .nil)))) (by rintro _ rfl;rfl) ?_;rintro _ rfl));conv=>whnf)|(refine Br.dec (fun _=>?_) (fun _=>?_)<;>first|(exfalso;omega)|conv=>whnf)|(refine Br.n (fun _=>?_) (fun _=>?_)<;>conv=>whnf))
 ·exact ⟨k+1,⟨by omega,by rw [← h6,DT (p:=fun it:Item => !knownB p p.procs[j] (procsN p) it.s) hk (by simp;assumption)]⟩,by omega,Le.of_eq rfl⟩
 ·have e3:=JO (p:=fun it:Item => !knownB p p.procs[j] (procsN p) it.s) hk (by simp;assumption)
  rw [← h6,e3] at hsa
  have e2:=VV hj hsa
  rw [h3] at e2
  rw [e2]
  exact RetK.fault rfl rfl
open Go.Proofs
def w5n:LV→Option Bool
 | .p .tt=>some true
 | .p .ff=>some false
 | .p (.bool b)=>some b
 | _=>none
theorem q5k {σ:Mem} {β:Lab} {l:LV} {v:Value} {b:Bool} (h:RepL σ β l v) (hb:w5n l=some b):v = .bool b:=by
 cases h with
 | p h=>cases h<;>simp [w5n] at hb<;>subst hb<;>rfl
 | _=>simp [w5n] at hb
theorem ValO.boolNeq {P:Program} {T:Tab} {hr:Bool} {s:St} {o:Oper} {K:LV→Prop} (hT:TabOK P T) {t u:TypeId} {x y:Operand} (hop:o.op = .binOp .neq t x y u) {i:TyI} (ht:T.get t=some i) (hd:i.desc = .bool)
  {a b:Bool} (hx:w5n (QI s.sl x)=some a) (hy:w5n (QI s.sl y)=some b) (hK:K (.p (.bool (a != b)))):ValO P hr s o K:=by
 refine ⟨fun σ β ac w hs _=>⟨_,.bool (a != b),hK,.p (.bool _),fun w' _ _ => ?_⟩⟩
 have h1:=q5k (QU hs x) hx
 have h2:=q5k (QU hs y) hy
 have hu:=hT.of ht
 rw [hd] at hu
 have hg:(eqGuard .neq t x y (.bool a) (.bool b)).run P w' = .ok () w':=by unfold eqGuard;rfl
 have he:(Op.equal t (.bool a) (.bool b)).run P w' = .ok (a==b) w':=by
  have e:Op.equal t (.bool a) (.bool b)=Op.equalIn (9999+1) t (.bool a) (.bool b):=rfl
  rw [e,Op.equalIn,Sem.run_bind,run_underlying hu,Result.andThen_ok]
  rfl
 simp only [execOp,hop,h1,h2,Sem.run_bind,hg,Result.andThen_ok,binOp]
 simp [he]
 cases a<;>cases b<;>rfl
def q8c (l:List Param) (args:List Arg):Bool:=decide (l.map Param.ref=args.map Arg.ref)
theorem z4r (l:List Param) (args:List Arg):SpecP Tryz.prog 262 [.sl (l.map fun a => .agg a.cells),w3q args] (fun r=>r = .bool (q8c l args)):=by
 refine SpecP.body x7j QQ Tryz.func262 rfl Tryz.call262 (by show 2≤_;decide) ?_
 conv=>whnf
 repeat' (first|(intro (_:_≤9223372036854775807);conv=>whnf)|(refine Br.dec2 (fun _=>?_) (fun _=>?_)<;>first|(exfalso;omega)|conv=>whnf))
 all_goals
  have hl:(l.map fun a=>AV.agg a.cells).length=l.length:=List.length_map _
  have hl2:(args.map fun a=>AV.agg a.cells).length=args.length:=List.length_map _
 ·have hlen:l.length=args.length:=by omega
  refine LoopK.inv QQ (fun j:Nat=>⟨[(1,.p (w3q args)),(12,.p (.sl (l.map fun a => .agg a.cells))),(13,.p (.int .i64 (l.map fun a=>AV.agg a.cells).length)),(14,.p (.int .i64 j))],[]⟩) (fun j=>j≤l.length∧(l.map Param.ref).take j=(args.map Arg.ref).take j) (fun j=>l.length-j) 0 (Le.of_eq rfl) ⟨Nat.zero_le _,rfl⟩ ?_
  rintro j ⟨h2,h3⟩
  rcases Nat.lt_or_ge j l.length with hj|hj
  ·conv=>whnf
   repeat' (first|((first|refine DrawK.auto QQ mixed (by kernel_rfl) ?_|refine And.intro rfl ?_|refine IdxK.map (by omega) (fun _=>rfl) ?_|refine Wr.i64 (by omega) (by omega) ?_|refine ValO.boolNeq QQ rfl rfl rfl rfl rfl ?_);conv=>whnf)|(refine Br.dec (fun _=>?_) (fun _=>?_)<;>first|(exfalso;omega)|conv=>whnf)|(refine Br.dec2 (fun _=>?_) (fun _=>?_)<;>first|(exfalso;omega)|conv=>whnf))
   ·have hne:l[j].ref=(args[j]'(by omega)).ref:=by assumption
    exact ⟨j+1,⟨by omega,by
     rw [List.take_succ_eq_append_getElem (by simp;omega),List.take_succ_eq_append_getElem (by simp;omega),h3]
     simp [hne]⟩,by omega,Le.of_eq rfl⟩
   ·have hne : ¬l[j].ref=(args[j]'(by omega)).ref:=by assumption
    exact RetK.ff (by
     unfold q8c
     rw [decide_eq_false_iff_not]
     intro he
     have:(l.map Param.ref)[j]? = (args.map Arg.ref)[j]? := by rw [he]
     rw [List.getElem?_map,List.getElem?_map,List.getElem?_eq_getElem hj,List.getElem?_eq_getElem (by omega)] at this
     simp at this
     exact hne this)
  ·conv=>whnf
   repeat' (refine Br.dec (fun _=>?_) (fun _=>?_)<;>first|(exfalso;omega)|conv=>whnf)
   exact RetK.tt (by
    unfold q8c
    rw [decide_eq_true_eq]
    rwa [List.take_of_length_le (by simp;omega),List.take_of_length_le (by simp;omega)] at h3)
 ·exact RetK.ff (by
   unfold q8c
   rw [decide_eq_false_iff_not]
   intro he
   have:=congrArg List.length he
   simp at this
   omega)
def UM (p:Pg) (s:S):Bool:=decide (s.kind=4)&&match p.procs.find? (fun f=>f.name==s.proc) with
 | some f=>q8c f.params s.args
 | none=>false
theorem z4a (p:Pg) (s:S):SpecP Tryz.prog 195 [.agg p.cells,.agg s.cells] (fun r=>r = .bool (UM p s)):=by
 refine SpecP.body x6d QQ Tryz.func195 rfl Tryz.call195 (by show 2≤_;decide) ?_
 conv=>whnf
 repeat' (first|(intro (_:_≤9223372036854775807);conv=>whnf)|(refine Br.dec2 (fun _=>?_) (fun _=>?_)<;>first|(exfalso;omega)|conv=>whnf))
 ·have hl:(p.procs.map fun f=>AV.agg f.cells).length=p.procs.length:=List.length_map _
  refine LoopK.inv QQ (fun j:Nat=>⟨[(3,.p (.ip s.cells)),(11,.p (.sl (p.procs.map fun f => .agg f.cells))),(12,.p (.int .i64 (p.procs.map fun f=>AV.agg f.cells).length)),(13,.p (.int .i64 j))],[]⟩) (fun j=>j≤p.procs.length∧(p.procs.drop j).find? (fun f=>f.name==s.proc)=p.procs.find? (fun f=>f.name==s.proc)) (fun j=>p.procs.length-j) 0 (Le.of_eq rfl) ⟨Nat.zero_le _,rfl⟩ ?_
  rintro j ⟨h2,h3⟩
  conv=>whnf
  repeat' (first|((first|(refine CallK.pure (z4r _ _) (by repeat' (first|exact ArgP.nil|refine ArgP.cons ?_ ?_|exact Sub.refl _|exact Sub.tt rfl|exact Sub.ff rfl)) ?_;rintro _ rfl)|refine And.intro rfl ?_|refine IdxK.map (by omega) (fun _=>rfl) ?_|refine Wr.i64 (by omega) (by omega) ?_);conv=>whnf)|(refine Br.dec (fun _=>?_) (fun _=>?_)<;>first|(exfalso;omega)|conv=>whnf)|(refine Br.b (fun _=>?_) (fun _=>?_)<;>conv=>whnf))
  ·have e:=JO (p:=fun f:Pr=>f.name==s.proc) (l:=p.procs) (j:=j) (by omega) (by assumption)
   rw [h3] at e
   exact RetK.bool (by unfold UM;rw [e];simp [*])
  ·exact ⟨j+1,⟨by omega,by rw [← h3,DT (p:=fun f:Pr=>f.name==s.proc) (by omega) (by assumption)]⟩,by omega,Le.of_eq rfl⟩
  ·have e:p.procs.find? (fun f=>f.name==s.proc)=none:=by rw [← h3,KW (by omega)]
   exact RetK.ff (by unfold UM;rw [e];simp)
 ·exact RetK.ff (by unfold UM;simp [*])
def YC (p:Pg):List S:=p.procs.flatMap fun f=>flL f.body
theorem w3h : ∀ (l:List Pr) (i:Nat) (acc:List Item) (lo hi:List Int),(q8n i acc lo hi l).1.map Item.s=acc.map Item.s++l.flatMap fun f=>flL f.body
 | [],i,acc,lo,hi=>by rw [q8n];simp
 | f::r,i,acc,lo,hi=>by
   rw [q8n,w3h r,q0b,List.map_append,MK,List.flatMap_cons,List.append_assoc]
theorem x3k (p:Pg):(sheetOf p).l.map Item.s=YC p:=by
 have:=w3h p.procs 0 [] [] []
 unfold sheetOf YC
 simpa using this
theorem z4i {p:Pg} (hf:Fit p) {k:Nat} (hk:k<(sheetOf p).l.length):wS (sheetOf p).l[k].s≤20000:=by
 have hm:(sheetOf p).l[k].s∈YC p:=by
  rw [← x3k]
  exact List.mem_map.2 ⟨_,List.getElem_mem hk,rfl⟩
 unfold YC at hm
 obtain ⟨f,h1,h2⟩:=List.mem_flatMap.1 hm
 have h3:=q6p _ _ h2
 have h4:=hf.pr h1
 unfold wPr at h4
 omega
def VK (p:Pg):Int×Int :=
 if (QS p).1≠0 then (1,0) else match (YC p).find? fun t=>decide (t.kind=4) && !UM p t with
  | some t=>(6,t.id)
  | none=>(0,0)
theorem VQ {p:Pg} (h:(QS p).1=0):WI p=true∧ZH p=false∧p.procs.findSome? (WM p)=none:=by
 unfold QS at h
 cases hm:WI p<;>rw [hm] at h
 ·cases h
 cases hb:ZH p<;>rw [hb] at h
 ·refine ⟨rfl,rfl,?_⟩
  simp only [cond_true,cond_false] at h
  split at h
  ·cases h
  ·assumption
 ·cases h
theorem q6t (p:Pg) (hf:Fit p):SpecP Tryz.prog 138 [.agg p.cells] (fun r=>r=DI (VK p).1 (VK p).2):=by
 refine SpecP.body x2q QQ Tryz.func138 rfl Tryz.call138 (by show 1≤_;decide) ?_
 conv=>whnf
 repeat' (first|((first|(refine CallK.pure (JN p hf) (by repeat' (first|exact ArgP.nil|refine ArgP.cons ?_ ?_|exact Sub.refl _|exact Sub.tt rfl|exact Sub.ff rfl|exact Sub.int (by omega))) ?_;rintro _ rfl)|refine And.intro rfl ?_);conv=>whnf)|(refine Br.dec2 (fun _=>?_) (fun _=>?_)<;>first|(exfalso;omega)|conv=>whnf))
 rotate_left 1
 ·have e:VK p=(1,0):=by unfold VK;rw [if_pos (by assumption)]
  exact RetK.fault (by rw [e]) (by rw [e])
 have hs:(QS p).1=0:=by assumption
 obtain ⟨hm,hb,hns⟩:=VQ hs
 obtain ⟨hg,hpl,hcn⟩:=ZX hm
 have hA:VK p=match (YC p).find? fun t=>decide (t.kind=4) && !UM p t with
  | some t=>(6,t.id)
  | none=>(0,0):=by unfold VK;rw [if_neg (by omega)]
 repeat' ((first|intro (_:_≤9223372036854775807)|(refine CallK.pure (YK p (by omega) (by omega)) (.cons (Sub.refl _) .nil) ?_;rintro _ rfl));conv=>whnf)
 have hil:=WJ (sheetOf p).l
 have hib:(sheetOf p).l.length≤200:=by have:=(QJ p).2.2.2.1;omega
 have hfi:=PX (q:=fun t=>decide (t.kind=4) && !UM p t) (sheetOf p).l
 rw [x3k] at hfi
 have hA2:VK p=match ((sheetOf p).l.find? fun it=>decide (it.s.kind=4) && !UM p it.s).map (fun it=>it.s.id) with
  | some a=>(6,a)
  | none=>(0,0):=by
  rw [hA,hfi]
  cases (YC p).find? fun t=>decide (t.kind=4) && !UM p t<;>rfl
 rw [hA2]
 refine LoopK.inv QQ (fun k:Nat=>⟨[(1,.p (.ip p.cells)),(2,.ptr 1 0),(14,.p (JI (sheetOf p).l)),(15,.p (.int .i64 ((sheetOf p).l.map fun i=>AV.agg i.cells).length)),(16,.p (.int .i64 k))],[(1,.obj 90 [.p (.int .i64 0),.p (.int .i64 0)])]⟩)
  (fun k=>k≤(sheetOf p).l.length∧((sheetOf p).l.drop k).find? (fun it=>decide (it.s.kind=4) && !UM p it.s)=(sheetOf p).l.find? fun it=>decide (it.s.kind=4) && !UM p it.s) (fun k=>(sheetOf p).l.length-k) 0 (Le.of_eq rfl) ⟨Nat.zero_le _,rfl⟩ ?_
 rintro k ⟨h5,h6⟩
 rcases Nat.lt_or_ge k (sheetOf p).l.length with hk|hk
 rotate_left 1
 ·rw [← h6,KW hk]
  conv=>whnf
  repeat' (first|(refine And.intro rfl ?_;conv=>whnf)|(refine Br.dec (fun _=>?_) (fun _=>?_)<;>first|(exfalso;omega)|conv=>whnf))
  exact RetK.fault rfl rfl
 conv=>whnf
 repeat' (first|((first|(refine CallK.pure (z4a _ _) (by repeat' (first|exact ArgP.nil|refine ArgP.cons ?_ ?_|exact Sub.refl _|exact Sub.tt rfl|exact Sub.ff rfl)) ?_;rintro _ rfl)|refine And.intro rfl ?_|refine IdxK.map (by omega) (fun _=>rfl) ?_|refine Wr.i64 (by omega) (by omega) ?_);conv=>whnf)|(refine Br.dec (fun _=>?_) (fun _=>?_)<;>first|(exfalso;omega)|conv=>whnf)|(refine Br.n (fun _=>?_) (fun _=>?_)<;>conv=>whnf))
 all_goals first
  | (have e3:=JO (p:=fun it:Item=>decide (it.s.kind=4) && !UM p it.s) hk (by simp [*])
     rw [← h6,e3]
     exact RetK.fault rfl rfl)
  | exact ⟨k+1,⟨by omega,by rw [← h6,DT (p:=fun it:Item=>decide (it.s.kind=4) && !UM p it.s) hk (by simp [*])]⟩,by omega,Le.of_eq rfl⟩
open Go.Proofs
def VC:List Str→List Str→Option (List Str)
 | seen,[]=>some seen
 | seen,n::r=>bif seen.any (fun s=>n==s) then none else VC (seen++[n]) r
theorem w2i {seen l:List Str} {j:Nat} (hj:j<l.length) (h:(seen.any fun s=>l[j]==s)=true):VC seen (l.drop j)=none:=by
 rw [QG hj,VC,h];rfl
theorem w0x {seen l:List Str} {j:Nat} (hj:j<l.length) (h:(seen.any fun s=>l[j]==s)=false):VC seen (l.drop j)=VC (seen++[l[j]]) (l.drop (j+1)):=by
 rw [QG hj,VC,h];rfl
theorem q0x : ∀ {l seen out:List Str},VC seen l=some out→out=seen++l
 | [],seen,out,h=>by rw [VC] at h;cases h;simp
 | n::r,seen,out,h=>by
   rw [VC] at h
   cases hc:(seen.any fun s=>n==s)<;>rw [hc] at h
   ·have:=q0x h
    simpa using this
   ·cases h
def z8c (t:Nat) (seen l:List Str) (r:LV) (H:Heap):Prop :=
 match VC seen l with
 | some out=>r = .tup [.hd 2000 0 out.length,.p .tt]∧H=x3w t out
 | none => ∃ out,r = .tup [.hd 2000 0 out.length,.p .ff]∧H=x3w t out
theorem q6y {t:Nat} {seen l:List Str} {Q:LV→Heap→Prop} (h1:VC seen l=some (seen++l)→Q (.tup [.hd 2000 0 (seen++l).length,.p .tt]) (x3w t (seen++l)))
  (h2:VC seen l=none → ∀ out,Q (.tup [.hd 2000 0 out.length,.p .ff]) (x3w t out)) : ∀ l' H',z8c t seen l l' H'→Q l' H':=by
 intro l' H' h
 unfold z8c at h
 cases hr:VC seen l with
 | some out =>
   rw [hr] at h
   obtain ⟨rfl,rfl⟩:=h
   have:=q0x hr
   subst this
   exact h1 hr
 | none =>
   rw [hr] at h
   obtain ⟨out,rfl,rfl⟩:=h
   exact h2 hr out
theorem x6y (seen l:List Str) (hlen:seen.length+l.length≤1000000000) :
  SpecH Tryz.prog 197 [.hd 2000 0 seen.length,.p (QD l)] (x3w 9 seen) (z8c 9 seen l):=by
 refine SpecH.body x8u QQ Tryz.func197 rfl Tryz.call197 (by show 2≤_;decide) ?_
 conv=>whnf
 repeat' (intro (_:_≤9223372036854775807);conv=>whnf)
 have hl:(l.map AV.str).length=l.length:=List.length_map _
 refine LoopK.inv QQ (fun i:Nat×List Str=>⟨[(0,.hd 2000 0 i.2.length),(8,.p (QD l)),(9,.p (.int .i64 (l.map AV.str).length)),(10,.p (.int .i64 i.1))],x3w 9 i.2⟩) (fun i=>i.1≤l.length∧i.2.length+(l.length-i.1)=seen.length+l.length∧VC i.2 (l.drop i.1)=VC seen l) (fun i=>l.length-i.1) (0,seen) (Le.of_eq rfl) ⟨Nat.zero_le _,by simp,rfl⟩ ?_
 rintro ⟨j,acc⟩ ⟨h2,h3,h4⟩
 simp only at h2 h3 h4 ⊢
 rcases Nat.lt_or_ge j l.length with hj|hj
 ·conv=>whnf
  repeat' (first|((first|refine And.intro rfl ?_|(refine And.intro ⟨by decide,by decide⟩ ?_)|refine BsK.pure (fun x hx=>by rcases List.mem_singleton.1 hx with rfl;rfl) rfl ?_|refine IdxK.map (by omega) (fun _=>rfl) ?_|refine Wr.i64 (by omega) (by omega) ?_|(refine CallK.borrow (QV acc (l[j]'hj)) (.cons (.hd rfl (by simp)) (.cons (.p (Sub.refl _)) .nil)) (by rintro _ rfl;rfl) ?_;rintro _ rfl)|refine AppK.str1 (by simp) (by simp;omega) ?_);conv=>whnf)|(refine Br.dec (fun _=>?_) (fun _=>?_)<;>first|(exfalso;omega)|conv=>whnf)|(refine Br.b (fun _=>?_) (fun _=>?_)<;>conv=>whnf))
  ·exact ⟨_,.refl _,by unfold z8c;rw [← h4,w2i hj (by assumption)];exact ⟨acc,rfl,rfl⟩⟩
  ·exact ⟨(j+1,acc++[l[j]]),⟨by simp only;omega,by simp;omega,by simp only;rw [← h4,w0x hj (by assumption)]⟩,by simp only;omega,Le.of_eq (by simp only [x3w,List.length_append,List.map_append];rfl)⟩
 ·conv=>whnf
  repeat' (refine Br.dec (fun _=>?_) (fun _=>?_)<;>first|(exfalso;omega)|conv=>whnf)
  rw [List.drop_eq_nil_of_le hj,VC] at h4
  exact ⟨_,.refl _,by unfold z8c;rw [← h4];exact ⟨rfl,rfl⟩⟩
def atB (f:Pr) (label:Str):Int×Bool :=
 match (flL f.body).find? fun t=>t.labels.any fun s=>label==s with
 | some t=>(t.id,true)
 | none=>bif f.fin.any fun s=>label==s then (-1,true) else (0,false)
theorem RetK.tup2 {H:Heap} {k:IntKind} {m n:Int} {x:AV} {b:Bool} (h:m=n) (hb:Sub x (.bool b)):RetK H (.p (.tup [.int k m,x])) (fun r=>r = .tup [.int k n,.bool b]) :=
 ⟨_,.p (Sub.tup (SubL.cons (Sub.int h) (SubL.cons hb SubL.nil))),rfl⟩
theorem q0r (p:Pg) (j:Nat) (f:Pr) (hj:p.procs[j]? = some f) (hc:cntP p.procs≤1000) (label:Str):SpecP Tryz.prog 263 [.ip (sheetOf p).cells,.int .i64 j,.str label] (fun r=>r = .tup [.int .i64 (atB f label).1,.bool (atB f label).2]):=by
 refine SpecP.body q8f QQ Tryz.func263 rfl Tryz.call263 (by show 3≤_;decide) ?_
 conv=>whnf
 repeat' ((first|intro (_:_≤9223372036854775807)|(refine CallK.pure (x9w p hj hc) (.cons (Sub.refl _) (.cons (Sub.refl _) .nil)) ?_;rintro _ rfl));conv=>whnf)
 have hfi:=PX (q:=fun t=>t.labels.any fun s=>label==s) (itL (j:Nat) 0 (-1) 0 (QN p.procs j) f.body)
 rw [MK] at hfi
 have hib:(itL (j:Nat) 0 (-1) 0 (QN p.procs j) f.body).length≤1000:=by
  have:=(QJ p).2.2.2.2 j f hj
  rw [XR]
  omega
 generalize hits:itL (j:Nat) 0 (-1) 0 (QN p.procs j) f.body=its at hfi hib ⊢
 have hil:=WJ its
 have hat:atB f label=match (its.find? fun it=>it.s.labels.any fun s=>label==s).map (fun it=>it.s.id) with
  | some a=>(a,true)
  | none=>bif f.fin.any fun s=>label==s then (-1,true) else (0,false):=by
  unfold atB
  rw [hfi]
  cases (flL f.body).find? fun t=>t.labels.any fun s=>label==s<;>rfl
 rw [hat]
 refine LoopK.inv QQ (fun k:Nat=>⟨[(0,.p (.ip (sheetOf p).cells)),(1,.p (.int .i64 j)),(2,.p (.str label)),(12,.p (JI its)),(13,.p (.int .i64 (its.map fun i=>AV.agg i.cells).length)),(14,.p (.int .i64 k))],[]⟩)
  (fun k=>k≤its.length∧(its.drop k).find? (fun it=>it.s.labels.any fun s=>label==s)=its.find? fun it=>it.s.labels.any fun s=>label==s) (fun k=>its.length-k) 0 (Le.of_eq rfl) ⟨Nat.zero_le _,rfl⟩ ?_
 rintro k ⟨h5,h6⟩
 rcases Nat.lt_or_ge k its.length with hk|hk
 ·conv=>whnf
  repeat' (first|((first|(refine CallK.pure (QV _ _) (by repeat' (first|exact ArgP.nil|refine ArgP.cons ?_ ?_|exact Sub.refl _|exact Sub.tt rfl|exact Sub.ff rfl)) ?_;rintro _ rfl)|refine And.intro rfl ?_|refine IdxK.map (by omega) (fun _=>rfl) ?_|refine Wr.i64 (by omega) (by omega) ?_);conv=>whnf)|(refine Br.dec (fun _=>?_) (fun _=>?_)<;>first|(exfalso;omega)|conv=>whnf)|(refine Br.b (fun _=>?_) (fun _=>?_)<;>conv=>whnf))
  ·have e3:=JO (p:=fun it:Item=>it.s.labels.any fun s=>label==s) hk (by assumption)
   rw [← h6,e3]
   exact RetK.tup2 rfl (Sub.tt rfl)
  ·exact ⟨k+1,⟨by omega,by rw [← h6,DT (p:=fun it:Item=>it.s.labels.any fun s=>label==s) hk (by assumption)]⟩,by omega,Le.of_eq rfl⟩
 ·rw [← h6,KW hk]
  have hpj:(p.procs.map fun f=>AV.agg f.cells)[j]? = some (.agg f.cells):=by simp [hj]
  conv=>whnf
  repeat' (first|((first|(refine CallK.pure (QV _ _) (by repeat' (first|exact ArgP.nil|refine ArgP.cons ?_ ?_|exact Sub.refl _|exact Sub.tt rfl|exact Sub.ff rfl)) ?_;rintro _ rfl)|(refine IdxK.at rfl hpj rfl ?_));conv=>whnf)|(refine Br.dec (fun _=>?_) (fun _=>?_)<;>first|(exfalso;omega)|conv=>whnf)|(refine Br.b (fun _=>?_) (fun _=>?_)<;>conv=>whnf))
  ·exact RetK.tup2 (by simp [*]) (Sub.tt (by simp [*]))
  ·exact RetK.tup2 (by simp [*]) (Sub.ff (by simp [*]))
def VY (f:Pr) (it:Item):Bool:=if it.s.kind=7∨it.s.kind=8 then !(it.loop==0) else if it.s.kind=10 then (atB f it.s.name).2 else true
theorem z4x (p:Pg) (j:Nat) (f:Pr) (hj:p.procs[j]? = some f) (hc:cntP p.procs≤1000) (it:Item) (hp:it.proc=j):SpecP Tryz.prog 198 [.ip (sheetOf p).cells,.agg it.cells] (fun r=>r = .bool (VY f it)):=by
 refine SpecP.body x5d QQ Tryz.func198 rfl Tryz.call198 (by show 2≤_;decide) ?_
 conv=>whnf
 repeat' (first|(refine CallK.pure (q0r p j f hj hc it.s.name) (.cons (Sub.refl _) (.cons (Sub.int hp) (.cons (Sub.refl _) .nil))) ?_;rintro _ rfl;conv=>whnf)|(refine Br.dec (fun _=>?_) (fun _=>?_)<;>first|(exfalso;omega)|conv=>whnf))
 all_goals first
  | exact RetK.bool (by simp [VY, *];rfl)
  | exact RetK.bool (by simp [VY, *])
  | exact RetK.tt (by simp [VY, *])
theorem z4u (p:Pg) (hf:Fit p) (h:(QS p).1=0):SpecP Tryz.prog 196 [.agg p.cells] (fun r=>r = .ip (sheetOf p).cells):=by
 refine SpecP.body q4w QQ Tryz.func196 rfl Tryz.call196 (by show 1≤_;decide) ?_
 conv=>whnf
 obtain ⟨hm,hb,hns⟩:=VQ h
 obtain ⟨hg,hpl,hcn⟩:=ZX hm
 repeat' (first|((first|(refine CallK.pure (JN p hf) (by repeat' (first|exact ArgP.nil|refine ArgP.cons ?_ ?_|exact Sub.refl _|exact Sub.tt rfl|exact Sub.ff rfl|exact Sub.int (by omega))) ?_;rintro _ rfl)|(refine CallK.pure (YK p (by omega) (by omega)) (.cons (Sub.refl _) .nil) ?_;rintro _ rfl));conv=>whnf)|(refine Br.dec2 (fun _=>?_) (fun _=>?_)<;>first|(exfalso;omega)|conv=>whnf))
 exact RetK.p rfl
theorem x1t (p:Pg) (hf:Fit p) (h:(QS p).1≠0):SpecP Tryz.prog 196 [.agg p.cells] (fun r=>r = .nilp):=by
 refine SpecP.body q4w QQ Tryz.func196 rfl Tryz.call196 (by show 1≤_;decide) ?_
 conv=>whnf
 repeat' (first|(refine CallK.pure (JN p hf) (by repeat' (first|exact ArgP.nil|refine ArgP.cons ?_ ?_|exact Sub.refl _|exact Sub.tt rfl|exact Sub.ff rfl|exact Sub.int (by omega))) ?_;rintro _ rfl;conv=>whnf)|(refine Br.dec2 (fun _=>?_) (fun _=>?_)<;>first|(exfalso;omega)|conv=>whnf))
 exact RetK.p rfl
mutual
theorem w3w (proc up nx loop:Int) (n:Nat) : ∀ (t:S) (it:Item),it∈itS proc up nx loop n t→it.proc=proc
 | .mk id kind labels name pr x has args thn els,it,h=>by
   rw [itS] at h
   rcases List.mem_cons.1 h with rfl|h
   ·rfl
   ·rcases List.mem_append.1 h with h|h
    ·exact q0u _ _ _ _ _ thn it h
    ·exact q0u _ _ _ _ _ els it h
theorem q0u (proc up nx loop:Int) (n:Nat) : ∀ (l:List S) (it:Item),it∈itL proc up nx loop n l→it.proc=proc
 | [],it,h=>by rw [itL] at h;cases h
 | t::r,it,h=>by
   rw [itL] at h
   rcases List.mem_append.1 h with h|h
   ·exact w3w _ _ _ _ _ t it h
   ·exact q0u _ _ _ _ _ r it h
end
def UT (f:Pr):List Item→List Str→Except Int (List Str)
 | [],seen => .ok seen
 | it::r,seen=>match VC seen it.s.labels with
   | none => .error it.s.id
   | some s=>bif VY f it then UT f r s else .error it.s.id
def UP (p:Pg) (j:Nat):Option Int :=
 match p.procs[j]? with
 | none=>none
 | some f=>match UT f (itL (j:Nat) 0 (-1) 0 (QN p.procs j) f.body) [] with
   | .error id=>some id
   | .ok seen=>match VC seen f.fin with
     | none=>some 0
     | some _=>none
def PT (p:Pg):Int×Int :=
 if (QS p).1≠0 then (1,0) else match (List.range p.procs.length).findSome? (UP p) with
  | some a=>(7,a)
  | none=>(0,0)
theorem w2t {f:Pr} {its:List Item} {seen:List Str} {k:Nat} (hk:k<its.length) (h:VC seen its[k].s.labels=none):UT f (its.drop k) seen = .error its[k].s.id:=by
 rw [QG hk,UT,h]
theorem z5a {f:Pr} {its:List Item} {seen s:List Str} {k:Nat} (hk:k<its.length) (h:VC seen its[k].s.labels=some s) (hl:VY f its[k]=false):UT f (its.drop k) seen = .error its[k].s.id:=by
 rw [QG hk,UT,h]
 simp only [hl,cond_false]
theorem z7p {f:Pr} {its:List Item} {seen s:List Str} {k:Nat} (hk:k<its.length) (h:VC seen its[k].s.labels=some s) (hl:VY f its[k]=true):UT f (its.drop k) seen=UT f (its.drop (k+1)) s:=by
 rw [QG hk,UT,h]
 simp only [hl,cond_true]
theorem x7e {l:List Pr} {j:Nat} (hj:j<l.length) (h:wPr l[j]≤20000) {a b c d:Int} {n k:Nat} (hk:k<(itL a b c d n l[j].body).length):(itL a b c d n l[j].body)[k].s.labels.length≤20000:=by
 have hm:(itL a b c d n l[j].body)[k].s∈flL l[j].body:=by
  rw [← MK a b c d n]
  exact List.mem_map.2 ⟨_,List.getElem_mem hk,rfl⟩
 have h1:=q6p _ _ hm
 have h2:=x2l (itL a b c d n l[j].body)[k].s
 have h3:=HY (itL a b c d n l[j].body)[k].s.labels
 unfold wPr at h
 omega
theorem z3z (p:Pg) (hf:Fit p):SpecP Tryz.prog 139 [.agg p.cells] (fun r=>r=DI (PT p).1 (PT p).2):=by
 refine SpecP.body x5z QQ Tryz.func139 rfl Tryz.call139 (by show 1≤_;decide) ?_
 conv=>whnf
 rcases Decidable.em ((QS p).1=0) with hs|hs
 rotate_left 1
 ·
  repeat' ((first|(refine CallK.pure (x1t p hf hs) (by repeat' (first|exact ArgP.nil|refine ArgP.cons ?_ ?_|exact Sub.refl _|exact Sub.tt rfl|exact Sub.ff rfl|exact Sub.int (by omega))) ?_;rintro _ rfl)|refine And.intro rfl ?_);conv=>whnf)
  have e:PT p=(1,0):=by unfold PT;rw [if_pos hs]
  exact RetK.fault (by rw [e]) (by rw [e])
 obtain ⟨hm,hb,hns⟩:=VQ hs
 obtain ⟨hg,hpl,hcn⟩:=ZX hm
 have hJ:PT p=match (List.range p.procs.length).findSome? (UP p) with
  | some a=>(7,a)
  | none=>(0,0):=by unfold PT;rw [if_neg (by omega)]
 rw [hJ]
 have hl:(p.procs.map fun f=>AV.agg f.cells).length=p.procs.length:=List.length_map _
 repeat' ((first|intro (_:_≤9223372036854775807)|(refine CallK.pure (z4u p hf hs) (by repeat' (first|exact ArgP.nil|refine ArgP.cons ?_ ?_|exact Sub.refl _|exact Sub.tt rfl|exact Sub.ff rfl|exact Sub.int (by omega))) ?_;rintro _ rfl));conv=>whnf)
 refine LoopK.inv QQ (fun j:Nat=>⟨[(2,.ptr 1 0),(3,.p (.ip (sheetOf p).cells)),(16,.p (.sl (p.procs.map fun f => .agg f.cells))),(17,.p (.int .i64 (p.procs.map fun f=>AV.agg f.cells).length)),(18,.p (.int .i64 j))],[(1,.obj 90 [.p (.int .i64 0),.p (.int .i64 0)])]⟩)
  (fun j=>j≤p.procs.length∧((List.range p.procs.length).drop j).findSome? (UP p)=(List.range p.procs.length).findSome? (UP p)) (fun j=>p.procs.length-j) 0 (Le.of_eq rfl) ⟨Nat.zero_le _,rfl⟩ ?_
 rintro j ⟨h2,h3⟩
 rcases Nat.lt_or_ge j p.procs.length with hj|hj
 rotate_left 1
 ·have e:(List.range p.procs.length).findSome? (UP p)=none:=by rw [← h3,q3p (by simpa using hj)]
  rw [e]
  conv=>whnf
  repeat' (first|(refine And.intro rfl ?_;conv=>whnf)|(refine Br.dec (fun _=>?_) (fun _=>?_)<;>first|(exfalso;omega)|conv=>whnf))
  exact RetK.fault rfl rfl
 have hfp:=hf.pr (List.getElem_mem hj)
 have hjr:j<(List.range p.procs.length).length:=by simpa using hj
 have hrj:(List.range p.procs.length)[j]=j:=by simp
 have hpj:p.procs[j]? = some p.procs[j]:=by simp [hj]
 conv=>whnf
 repeat' (first|((first|intro (_:_≤9223372036854775807)|refine And.intro rfl ?_|refine IdxK.map (by omega) (fun _=>rfl) ?_|(refine CallK.pure (x9w p (f:=p.procs[j]'hj) hpj (by omega)) (.cons (Sub.refl _) (.cons (Sub.refl _) .nil)) ?_;rintro _ rfl));conv=>whnf)|(refine Br.dec (fun _=>?_) (fun _=>?_)<;>first|(exfalso;omega)|conv=>whnf))
 have hlab : ∀ k (hk:k<(itL (j:Nat) 0 (-1) 0 (QN p.procs j) p.procs[j].body).length),(itL (j:Nat) 0 (-1) 0 (QN p.procs j) p.procs[j].body)[k].s.labels.length≤20000:=fun k hk=>x7e hj hfp hk
 have hprc : ∀ k (hk:k<(itL (j:Nat) 0 (-1) 0 (QN p.procs j) p.procs[j].body).length),(itL (j:Nat) 0 (-1) 0 (QN p.procs j) p.procs[j].body)[k].proc=j:=fun k hk=>q0u _ _ _ _ _ _ _ (List.getElem_mem hk)
 have hib:(itL (j:Nat) 0 (-1) 0 (QN p.procs j) p.procs[j].body).length≤200:=by
  have:=(QJ p).2.2.2.2 j _ hpj
  rw [XR]
  omega
 have hja:UP p j=match UT p.procs[j] (itL (j:Nat) 0 (-1) 0 (QN p.procs j) p.procs[j].body) [] with
  | .error id=>some id
  | .ok seen=>match VC seen p.procs[j].fin with
    | none=>some 0
    | some _=>none:=by
  unfold UP
  rw [hpj]
 generalize hits:itL (j:Nat) 0 (-1) 0 (QN p.procs j) p.procs[j].body=its at hlab hprc hib hja ⊢
 have hil:=WJ its
 refine LoopK.inv QQ (fun i:Nat×List Str=>⟨[(2,.ptr 1 0),(3,.p (.ip (sheetOf p).cells)),(5,.p (.ip (p.procs[j]'hj).cells)),(6,.hd 0 0 i.2.length),(16,.p (.sl (p.procs.map fun f => .agg f.cells))),(17,.p (.int .i64 (p.procs.map fun f=>AV.agg f.cells).length)),(18,.p (.int .i64 j)),(25,.p (JI its)),(26,.p (.int .i64 (its.map fun i=>AV.agg i.cells).length)),(27,.p (.int .i64 i.1))],[(0,.own 9 1 (i.2.map .str)),(1,.obj 90 [.p (.int .i64 0),.p (.int .i64 0)])]⟩)
  (fun i=>i.1≤its.length∧i.2.length≤20000*i.1∧UT p.procs[j] (its.drop i.1) i.2=UT p.procs[j] its []) (fun i=>its.length-i.1) (0,[])
  (Le.mk [(0,.own 9 1 [])] (by simp [Chunk.new0];rfl) (by simp) (by simp) (.cons (.refl _) (.cons (.refl _) (.cons (.refl _) (.cons (.nil List.mem_cons_self) (.cons (.refl _) (.cons (.refl _) (.cons (.refl _) (.cons (.refl _) (.cons (.refl _) (.cons (.refl _) .nil)))))))))) (.new List.mem_cons_self (.cons rfl (.refl _) .nil)))
  ⟨Nat.zero_le _,by simp,rfl⟩ ?_
 rintro ⟨k,acc⟩ ⟨h5,h6,h7⟩
 simp only at h5 h6 h7 ⊢
 rcases Nat.lt_or_ge k its.length with hk|hk
 ·have hlk:=hlab k hk
  conv=>whnf
  repeat' (first|((first|refine And.intro rfl ?_|refine IdxK.map (by omega) (fun _=>rfl) ?_|refine Wr.i64 (by omega) (by omega) ?_|(refine CallK.pure (z4x p j p.procs[j] hpj (by omega) its[k] (hprc k hk)) (.cons (Sub.refl _) (.cons (Sub.refl _) .nil)) ?_;rintro _ rfl));conv=>whnf)|(refine Br.dec (fun _=>?_) (fun _=>?_)<;>first|(exfalso;omega)|conv=>whnf)|(refine Br.n (fun _=>?_) (fun _=>?_)<;>conv=>whnf)|(refine CallK.heap [(2000,0)] 0 (by repeat' (first|exact ArgsH.nil|refine ArgsH.cons ?_ ?_|exact LSub.refl _|exact LSub.p Sub.nils|exact LSub.p (Sub.tt rfl)|exact LSub.p (Sub.ff rfl)|exact LSub.p (Sub.int (by omega)))) (by refine BlksH.cons (j:=0) rfl rfl ?_ ?_;exact CSub.refl _;exact BlksH.nil) (x6y acc its[k].s.labels (by omega)) rfl rfl (q6y (fun hjo => ?_) (fun hjo out => ?_))<;>conv=>whnf))
  ·exact ⟨(k+1,acc++its[k].s.labels),⟨by simp only;omega,by simp;omega,by simp only;rw [← h7,z7p hk hjo (by assumption)]⟩,by simp only;omega,Le.of_eq rfl⟩
  ·rw [← h7,z5a hk hjo (by assumption)] at hja
   have e2:=VV (f:=UP p) hjr (by rw [hrj];exact hja)
   rw [h3] at e2
   rw [e2]
   exact RetK.fault rfl rfl
  ·rw [← h7,w2t hk hjo] at hja
   have e2:=VV (f:=UP p) hjr (by rw [hrj];exact hja)
   rw [h3] at e2
   rw [e2]
   exact RetK.fault rfl rfl
 ·have hfin:p.procs[j].fin.length≤20000:=by
   have:=HY p.procs[j].fin
   unfold wPr at hfp
   omega
  rw [List.drop_eq_nil_of_le hk,UT] at h7
  rw [← h7] at hja
  simp only at hja
  conv=>whnf
  repeat' (first|((first|refine And.intro rfl ?_|refine Wr.i64 (by omega) (by omega) ?_);conv=>whnf)|(refine Br.dec (fun _=>?_) (fun _=>?_)<;>first|(exfalso;omega)|conv=>whnf)|(refine CallK.heap [(2000,0)] 0 (by repeat' (first|exact ArgsH.nil|refine ArgsH.cons ?_ ?_|exact LSub.refl _|exact LSub.p Sub.nils|exact LSub.p (Sub.tt rfl)|exact LSub.p (Sub.ff rfl)|exact LSub.p (Sub.int (by omega)))) (by refine BlksH.cons (j:=0) rfl rfl ?_ ?_;exact CSub.refl _;exact BlksH.nil) (x6y acc p.procs[j].fin (by omega)) rfl rfl (q6y (fun hjo => ?_) (fun hjo out => ?_))<;>conv=>whnf))
  ·rw [hjo] at hja
   exact ⟨j+1,⟨by omega,by rw [← h3,q6h (f:=UP p) hjr (by rw [hrj];exact hja)]⟩,by omega,Le.of_eq rfl⟩
  ·rw [hjo] at hja
   have e2:=VV (f:=UP p) hjr (by rw [hrj];exact hja)
   rw [h3] at e2
   rw [e2]
   exact RetK.fault rfl rfl
theorem BsK.pureL {es:List AV} {sz:Nat} {out:List LV} {Kp Ko:Prop} (hx:(es.all fun x=>x.cells.length==sz)=true) (ho:out=(es.flatMap AV.cells).map .p) (hK:Kp):BsK es sz out Kp Ko := .pure (fun x h=>by simpa using List.all_eq_true.1 hx x h) ho hK
end Go.Ab
