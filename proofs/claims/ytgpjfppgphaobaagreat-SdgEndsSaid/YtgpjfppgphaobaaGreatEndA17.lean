/- The library's contracts at this seat's program, in plain words (printed by the kit's lay-plain.mjs). Conditions: none. -/
import Derived.Test.YtgpjfppgphaobaaGreatEndA16
set_option linter.all false
set_option maxRecDepth 100000
set_option maxHeartbeats 16000000
namespace Go.Proofs
open Go.Shelf Tryz
def Tryz.laysG_ren:Go.Shelf.Ren:=⟨fun|6=>132|15=>150|14=>180|28=>200|29=>201|20=>233|21=>234|22=>235|23=>236|24=>237|25=>238|26=>239|27=>240|46=>264|47=>245|48=>246|49=>265|50=>266|57=>284|n=>n,fun|22=>138|24=>141|25=>198|3=>3|39=>210|0=>0|53=>249|55=>251|4=>4|46=>242|45=>241|50=>90|5=>5|9=>9|66=>281|70=>285|76=>303|77=>304|n=>n,fun|n=>n⟩
theorem kT16{α:Type}{x:Option α}{a b:α}(h:x=some a)(e:a=b:=by kernel_rfl):x=some b:=e▸h
def TA:Go.Proofs.SlLaysF0.n6 Tryz.prog Tryz.laysG_ren:=⟨by kernel_rfl,⟨f132.name,by decide,kT16 func132⟩,⟨f180.name,by decide,kT16 func180⟩,kT16 func150,⟨f233.name,by decide,kT16 func233⟩,⟨f234.name,by decide,kT16 func234⟩,⟨f235.name,by decide,kT16 func235⟩,⟨f236.name,by decide,kT16 func236⟩,⟨f237.name,by decide,kT16 func237⟩,⟨f238.name,by decide,kT16 func238⟩,⟨f239.name,by decide,kT16 func239⟩,⟨f240.name,by decide,kT16 func240⟩,kT16 func200,kT16 func201,⟨f264.name,by decide,kT16 func264⟩,kT16 func245,kT16 func246,⟨f265.name,by decide,kT16 func265⟩,⟨f266.name,by decide,kT16 func266⟩,⟨f284.name,by decide,kT16 func284⟩,underlying0,isAgg0,sizeOf0,zeroValue0,underlying3,isAgg3,sizeOf3,zeroValue3,underlying4,isAgg4,sizeOf4,zeroValue4,underlying5,isAgg5,sizeOf5,zeroValue5,underlying9,isAgg9,sizeOf9,zeroValue9,underlying138,isAgg138,sizeOf138,zeroValue138,underlying198,isAgg198,sizeOf198,zeroValue198,underlying210,isAgg210,sizeOf210,zeroValue210,underlying241,isAgg241,sizeOf241,zeroValue241,underlying242,isAgg242,sizeOf242,zeroValue242,underlying90,isAgg90,sizeOf90,zeroValue90,underlying249,isAgg249,sizeOf249,zeroValue249,underlying251,isAgg251,sizeOf251,zeroValue251,underlying281,isAgg281,sizeOf281,zeroValue281,underlying285,isAgg285,sizeOf285,zeroValue285,underlying303,isAgg303,sizeOf303,zeroValue303,underlying304,isAgg304,sizeOf304,zeroValue304⟩
end Go.Proofs
namespace Go.Ab
open Go.Proofs.Tryz
open Go.Proofs Go.Sort Go.RowKit Go.Lib
variable {f:Pr}{fm:List (List Bool)}{j:Nat}{nx:List (List Int)}
structure Fl where
 src:Int
 dst:Int
 var:Str
deriving DecidableEq
def Fl.cells(f:Fl):List AV:=[.int .i64 f.src,.int .i64 f.dst,.str f.var]
def flC(a b:Fl):Int:=orI [cmpI (XK a.src) (XK b.src),cmpI (XK a.dst) (XK b.dst),cmpT a.var b.var]
theorem VN(a b:Str):aP 135 [.str a,.str b] (.int .i64 (cmpT a b)):=by
 refine sC FK func135 ?_;conv=>whnf
 repeat' ((first|refine cP (UO a) ?_|refine cP (UO b) ?_|((first|apply bN|apply bB)<;>intro _<;>try omega))<;>conv=>whnf)
 all_goals first
  |contradiction
  | (have i:Op.bytesLess a b=true:=by assumption
     exact RetK.int (by unfold cmpT;rw[if_pos i]))
  | (have i:Op.bytesLess a b=false:=by assumption
     have l:(Op.bytesLess a b||a==b)=true:=by assumption
     have m:a=b:=by rw[i]at l;simpa using l
     exact RetK.int ((cmpT_k.zero a b).2 m).symm)
  | (have i:Op.bytesLess a b=false:=by assumption
     have l:(Op.bytesLess a b||a==b)=false:=by assumption
     have m:a≠b:=by
      rw[i]at l;rintro rfl;simp at l
     have q:Op.bytesLess b a=true:=by
      rcases ltT.total m with h|h
      ·exact absurd h (by unfold ltT;rw[i];decide)
      ·exact h
     exact RetK.int (by unfold cmpT;rw[if_neg (by rw[i];decide),if_pos q]))
def Xv(a b:Fl):aP 133 [.agg a.cells,.agg b.cells] (.int .i64 (flC a b)):=by
 refine sC PT func133 ?_;conv=>whnf
 have h:=VN a.var b.var;repeat' ((first|refine cP (Bp _) ?_|refine cP (VF _ _) ?_|refine cP (HZ [cmpI (XK a.src) (XK b.src),cmpI (XK a.dst) (XK b.dst),cmpT a.var b.var]) ?_|refine dA ?_|refine x4e rfl ?_|refine aD ?_|refine BsK.pureL rfl rfl ?_|refine cP h ?_)<;>conv=>whnf)
 all_goals first
  |exact RetK.p rfl
def ltF(a b:Fl):Prop:=XK a.src<XK b.src\/XK a.src=XK b.src/\(XK a.dst<XK b.dst\/XK a.dst=XK b.dst/\ltT a.var b.var)
def PH(a b:Fl):flC a b<0↔ltF a b:=by
 unfold flC ltF;rw[q4c,KQ,KQ,KX,JD,JD]
def flK(s:Fl):Int×Int×Str:=(XK s.src,XK s.dst,s.var)
def CE(a b:Fl):flC a b=(fun p q:Int×Int×Str=>if cmpI p.1 q.1=0 then(fun p q:Int×Str=>if cmpI p.1 q.1=0 then cmpT p.2 q.2 else cmpI p.1 q.1) p.2 q.2 else cmpI p.1 q.1) (flK a) (flK b):=by
 unfold flC;rw[HH,HH,Fd];rfl
theorem ltF.irr(a:Fl):¬ltF a a:=fun h=>by
 rw[<-PH,CE]at h;exact absurd (((cmpI_k.lex (cmpI_k.lex cmpT_k)).zero _ _).2 rfl) (Int.ne_of_lt h)
theorem ltF.trans(a b c:Fl)(i:ltF a b)(l:ltF b c):ltF a c:=by
 rw[<-PH,CE]at*
 exact(cmpI_k.lex (cmpI_k.lex cmpT_k)).tr _ _ _ i l
theorem ltF.neg{x y z:Fl}(i:¬ltF x y)(l:¬ltF y z):¬ltF x z:=by
 rw[<-PH,CE]at*
 exact(cmpI_k.lex (cmpI_k.lex cmpT_k)).ntr i l
def okFl(s:Fl):Prop:=s.src≠9223372036854775807/\s.dst≠9223372036854775807/\s.var.length<=maxLen
instance:Inhabited {s:Fl // okFl s}:=⟨⟨⟨0,0,[]⟩,by decide,by decide,x4j _⟩⟩
theorem ltF.total{a b:Fl}(ha:okFl a)(m:okFl b)(i:¬ltF a b)(l:¬ltF b a):a=b:=by
 rw[<-PH,CE]at i l;have e:=((cmpI_k.lex (cmpI_k.lex cmpT_k)).ge i).resolve_right l;obtain⟨q,r,v⟩:=a;obtain⟨t,u,w⟩:=b;simp only[flK,Prod.mk.injEq]at e;obtain rfl:q=t:=YN ha.1 m.1 e.1;obtain rfl:r=u:=YN ha.2.1 m.2.1 e.2.1;rw[e.2.2]
def C9(s:Fl):AV:=.agg s.cells
def GL(l:List Fl):List Fl:=l.mergeSort fun x y=> !decide (flC y x<0)
def SC{l:List Fl}:(GL l).length=l.length:=by unfold GL;simp
def Ys(l:List Fl)(i:∀s∈l,okFl s)(h:l.length<=1000000000):
  aH 132 [.hd 1000 0 l.length,.p (.fn 133 [])] [(1000,.own 141 3 (l.map fun s=>.agg s.cells))] (.p (.tup [])) [(1000,.own 141 3 ((GL l).map fun s=>.agg s.cells))]:=by
 exact V5 (p:=okFl) (cells:=Fl.cells) (k:=3) (fun _=>rfl) (fun x m c q=>by
   simp only[Fl.cells,x4v,x8m,or_false]at q;rcases q with rfl|rfl|rfl
   .rfl
   .rfl
   .exact x5n m.2.2) TA (by decide) call132 Tryz.isAgg141 Tryz.sizeOf141 141 flC (fun x y _ _=>Xv x y)
  (by simp only[CE];exact(cmpI_k.lex (cmpI_k.lex cmpT_k)).swo fun s:{s:Fl // okFl s}=>flK s.1) (fun x y m u r t=>ltF.total m u (by rw[<-PH];exact r) (by rw[<-PH];exact t)) l i h
section
variable {P:Program}{T:Tab}{N:Nat}{o:Oper}{s:St}
end
theorem SpecH.post{P:Program}{f:FuncId}{args:List LV}{H:Heap}{R R':LV->Heap->Prop}(h:SpecH P f args H R)(A:∀l H',R l H'->∃m,R' l m/\Le 1 ⟨[(0,l)],H'⟩ ⟨[(0,l)],m⟩):SpecH P f args H R':=by
 refine⟨h.go,fun σ β w x c e g=>(h.ok σ β w x c e g).mono fun D w' C=>?_⟩;obtain⟨l,u,σ',β',H',B,y,v,t,q⟩:=C;obtain⟨m,z,b⟩:=A l H' y;obtain⟨σ2,β2,r,a⟩:=b σ' β' {tmps:=#[u],defers:=[]} w' ⟨rfl,rfl,fun i=>by
  match i with
  |0=>simpa[getS]using v
  |i+1=>exact .p (by simpa[getS]using Rep.any _),t⟩
 exact⟨l,u,σ2,β2,m,B,z,by simpa[getS]using r.E 0,r.heap,q.trans a⟩
structure Vx where
 C:Str
 kind:Int
 id:Int
 slot:Str
deriving DecidableEq
def Vx.cells(v:Vx):List AV:=[.str v.C,.int .i64 v.kind,.int .i64 v.id,.str v.slot]
structure Eg where
 G:Vx
 to:Vx
 kind:Int
deriving DecidableEq
def Eg.cells(e:Eg):List AV:=[.str e.G.C,.int .i64 e.G.kind,.int .i64 e.G.id,.str e.G.slot,.str e.to.C,.int .i64 e.to.kind,.int .i64 e.to.id,.str e.to.slot,.int .i64 e.kind]
def avV(l:List Vx):List AV:=l.map fun v=>.agg v.cells
def avE(l:List Eg):List AV:=l.map fun e=>.agg e.cells
def pcO(b:AV)(i:Int)(f:Pr)(v e:LV):Chunk:=.obj 132 (([AV.ip b.cells,.int .i64 i]++f.cells).map .p++[v,e])
def vH(b:AV)(i:Int)(f:Pr)(vs:List Vx):Heap:=[(1000,pcO b i f (.hd 2000 0 vs.length) (.p .nils)),(2000,.own 27 4 (avV vs))]
def eH(b:AV)(i:Int)(f:Pr)(es:List Eg):Heap:=[(1000,pcO b i f (.p .nils) (.hd 2000 0 es.length)),(2000,.own 43 9 (avE es))]
def vHp(b:AV)(i:Int)(f:Pr)(vs:List Vx):Heap:=[(1000,pcO b i f (.hd 1001 0 vs.length) (.p .nils)),(1001,.own 27 4 (avV vs))]
def nHp(b:AV)(i:Int)(f:Pr):Heap:=[(1000,pcO b i f (.p .nils) (.p .nils))]
def eHp(b:AV)(i:Int)(f:Pr)(es:List Eg):Heap:=[(1000,pcO b i f (.p .nils) (.hd 1001 0 es.length)),(1001,.own 43 9 (avE es))]
theorem Q2(b:AV)(i:Int)(f:Pr)(k id:Int)(s:Str):aH 71 [.ptr 1000 0,.j k,.j id,.p (.str s)] (nHp b i f) (.p (.agg (Vx.cells ⟨f.name,k,id,s⟩))) (nHp b i f):=by
 refine SpecH.post (R:=fun r H=>r=.p (.agg (Vx.cells ⟨f.name,k,id,s⟩))/\H=(0,.obj 27 ((Vx.cells ⟨f.name,k,id,s⟩).map .p))::nHp b i f) ?_ (fun l H' h=>⟨nHp b i f,⟨h.1,rfl⟩,by
  obtain⟨rfl,rfl⟩:=h;exact lE (hnd:=by simp[nHp])⟩)
 refine sK WI func71 ?_;conv=>whnf
 repeat' ((first|(refine gX ?_;intros)|refine dA ?_|((first|apply bD|apply bE|apply bN|apply bB)<;>intro _<;>try omega))<;>conv=>whnf)
 all_goals exact⟨_,x4c _,rfl,rfl⟩
theorem Q3(b:AV)(i:Int)(f:Pr)(vs:List Vx)(k id:Int)(s:Str):aH 71 [.ptr 1000 0,.j k,.j id,.p (.str s)] (vHp b i f vs) (.p (.agg (Vx.cells ⟨f.name,k,id,s⟩))) (vHp b i f vs):=by
 refine SpecH.post (R:=fun r H=>r=.p (.agg (Vx.cells ⟨f.name,k,id,s⟩))/\H=(0,.obj 27 ((Vx.cells ⟨f.name,k,id,s⟩).map .p))::vHp b i f vs) ?_ (fun l H' h=>⟨vHp b i f vs,⟨h.1,rfl⟩,by
  obtain⟨rfl,rfl⟩:=h;exact lE (hnd:=by simp[vHp])⟩)
 refine sK WI func71 ?_;conv=>whnf
 repeat' ((first|(refine gX ?_;intros)|refine dA ?_|((first|apply bD|apply bE|apply bN|apply bB)<;>intro _<;>try omega))<;>conv=>whnf)
 all_goals exact⟨_,x4c _,rfl,rfl⟩
theorem QI(b:AV)(i:Int)(f:Pr)(es:List Eg)(k id:Int)(s:Str):aH 71 [.ptr 1000 0,.j k,.j id,.p (.str s)] (eHp b i f es) (.p (.agg (Vx.cells ⟨f.name,k,id,s⟩))) (eHp b i f es):=by
 refine SpecH.post (R:=fun r H=>r=.p (.agg (Vx.cells ⟨f.name,k,id,s⟩))/\H=(0,.obj 27 ((Vx.cells ⟨f.name,k,id,s⟩).map .p))::eHp b i f es) ?_ (fun l H' h=>⟨eHp b i f es,⟨h.1,rfl⟩,by
  obtain⟨rfl,rfl⟩:=h;exact lE (hnd:=by simp[eHp])⟩)
 refine sK WI func71 ?_;conv=>whnf
 repeat' ((first|(refine gX ?_;intros)|refine dA ?_|((first|apply bD|apply bE|apply bN|apply bB)<;>intro _<;>try omega))<;>conv=>whnf)
 all_goals exact⟨_,x4c _,rfl,rfl⟩
theorem Po{σ:Mem}{a:Param}{v:Value}(h:Rep σ (.agg a.cells) v):v=.agg #[.string ⟨a.name.toArray⟩,.bool a.ref]:=by
 cases h with
 | agg cs vs u t q r=>
   have x:vs.size=2:=t;have g0:vs[0]?=some (.string ⟨a.name.toArray⟩):=by
    have l:=q 0 (.str a.name) rfl;have m:=r 0 (.str a.name) rfl;generalize u 0=w at l m;cases m;exact l
   have g1:vs[1]?=some (.bool a.ref):=by
    have l:=q 1 (.bool a.ref) rfl;have m:=r 1 (.bool a.ref) rfl;generalize u 1=w at l m;cases m;exact l
   congr 1;apply Array.ext_getElem?;intro i
   match i with
   |0=>exact g0
   |1=>exact g1
   |i+2=>rw[x9w (by omega),x9w (by simp)]
instance:DecidableEq Param:=fun a b=>decidable_of_iff (a.name=b.name/\a.ref=b.ref) (by cases a;cases b;simp)
theorem ValO.B{C:Bool}{s:St}{o:Oper}{K:LV->Prop}{x y:Operand}{u:TypeId}(l:o.op=.binOp .eql 76 x y u){a b:Param}(E:QD s.sl x=.p (.agg a.cells))(F:QD s.sl y=.p (.agg b.cells))(c:K (.p (.bool (decide (a=b))))):ValO prog C s o K:=by
 refine⟨fun σ β q w r _=>⟨_,.bool (decide (a=b)),c,.p (.bool _),fun w' _ _=>?_⟩⟩;have v:q.eval x=.agg #[.string ⟨a.name.toArray⟩,.bool a.ref]:=by
  have:=QX r x;rw[E]at this;cases this with
  |p h=>exact Po h
 have z:q.eval y=.agg #[.string ⟨b.name.toArray⟩,.bool b.ref]:=by
  have:=QX r y;rw[F]at this;cases this with
  |p h=>exact Po h
 have D:prog.underlying 76=some (.struct (prog.fieldsOf 76)):=by kernel_rfl
 have m:prog.underlying 9=some .string:=by kernel_rfl
 have i:prog.underlying 4=some .bool:=by kernel_rfl
 have A:(prog.fieldsOf 76).toList=(match ty76.desc with |.struct fs=>fs.toList|_=>[]):=by kernel_rfl
 have g:(Op.equalIn 10000 76 (.agg #[.string ⟨a.name.toArray⟩,.bool a.ref]) (.agg #[.string ⟨b.name.toArray⟩,.bool b.ref])).run prog w'=.ok (decide (a=b)) w':=by
  rw[run_equalIn_struct w' 9999 _ _ _ D (by kernel_rfl),A];simp only[ty76,Op.eqFields];have G:∀(x:ByteArray)(y:Bool),(part 9 #[.string x,.bool y] 0).run prog w'=.ok (.string x) w':=fun x y=>run_part_plain w' (by kernel_rfl) rfl;have H:∀(x:ByteArray)(y:Bool),(part 4 #[.string x,.bool y] 1).run prog w'=.ok (.bool y) w':=fun x y=>run_part_plain w' (by kernel_rfl) rfl;have es:∀x y:ByteArray,(Op.equalIn 9999 9 (.string x) (.string y)).run prog w'=.ok (x.toList==y.toList) w':=fun x y=>run_equalIn_string (P:=prog) w' 9998 9 x y m;have t:∀x y:Bool,(Op.equalIn 9999 4 (.bool x) (.bool y)).run prog w'=.ok (x==y) w':=fun x y=>run_equalIn_bool (P:=prog) w' 9998 4 x y i;have e:decide (a=b)=(((⟨a.name.toArray⟩:ByteArray).toList==(⟨b.name.toArray⟩:ByteArray).toList)&&(a.ref==b.ref)):=by
   rw[ByteArray.toList_eq,ByteArray.toList_eq,x8s,x8q,x4n,x8u,x8u];cases a;cases b;simp
  simp only[ne_eq,show ¬("Name" = "_") by decide,show ¬("Ref" = "_") by decide,not_false_eq_true,if_true,Sem.run_bind,G,H,Result.andThen_ok,es,t,Sem.run_ite,Sem.run_pure,e];cases((⟨a.name.toArray⟩:ByteArray).toList==(⟨b.name.toArray⟩:ByteArray).toList)<;>cases(a.ref==b.ref)<;>simp
 simp only[execOp,l,v,z,Sem.run_bind,run_eqGuard_agg _ _ _ _ _ _ _ (show prog.eqGuardType prog.depth 76=false by kernel_rfl),Result.andThen_ok,run_eql_struct,g,Sem.run_pure]
theorem UM(l:List Param)(x:Param):SpecP prog 206 [.sl (l.map fun a=>.agg a.cells),.agg x.cells] (fun r=>∃k:Int,r=.int .i64 k/\(0<=k↔x∈l)):=by
 refine sC VP func206 ?_;conv=>whnf
 have u:(l.map fun a=>AV.agg a.cells).length=l.length:=x3a _;repeat' ((refine iM fun _=>?_)<;>conv=>whnf)
 refine lI (fun j:Nat=>⟨[(0,.p (.sl (l.map fun a=>.agg a.cells))),(3,.p (.ip x.cells)),(7,.p (.int .i64 (l.map fun a=>AV.agg a.cells).length)),(8,.j j)],[]⟩) (fun j=>j<=l.length/\x∉l.take j) (fun j=>l.length-j) 0 ⟨x4j _,by simp⟩ ?_;rintro j ⟨v,i⟩;rcases x4f j l.length with h|h
 ·have q:x∈l.take (j+1)↔x∈l.take j\/x=l[j]:=HG h;conv=>whnf
  repeat' ((first|refine dA ?_|(refine gX ?_;intros)|refine ValO.B (a:=x) (b:=l[j]) rfl rfl rfl ?_|(apply bD<;>intro _<;>try omega))<;>conv=>whnf)
  all_goals first
   | (have m:x=l[j]:=by assumption
      exact⟨_,.p (Sub.refl _),j,rfl,⟨fun _=>by rw[m];exact x4h h,fun _=>by omega⟩⟩)
   | (have m:¬x=l[j]:=by assumption
      exact nX (j+1) ⟨h,fun t=>(q.1 t).elim i m⟩)
 ·rw[x4b h]at i;conv=>whnf
  repeat' (apply bD<;>intro _<;>first|omega|conv=>whnf)
  all_goals exact⟨_,.p (Sub.refl _),-1,rfl,by simp[i]⟩
def VG(l:List Param)(x:Param):aP 162 [.sl (l.map fun a=>.agg a.cells),.agg x.cells] (.bool (decide (x∈l))):=by
 refine sC WL func162 ?_;conv=>whnf
 have h:=UM l x;repeat' ((refine CallK.pure h (.cons (Sub.refl _) (.cons (Sub.refl _) .nil)) ?_;rintro _ ⟨k,rfl,i⟩)<;>conv=>whnf)
 all_goals first
  |exact RetK.bool (by rw[x8s,x8q,x8q];exact i)
def q1l{p:Pg}(h:QL p=true)(l:p.A[j]?=some f):∀s∈Ve (QQ p j f) f,okSt s:=fun s i=>by
 unfold Ve at i;rcases x4g.1 i with i|i
 .rcases x4g.1 i with i|i
  .exact Hs h l s i
  .rw [x4w.1 i];exact⟨by decide,by decide⟩
 .obtain ⟨q,m,i⟩:=x4a.1 i;exact T6 h l q m s i
theorem Ok{p:Pg}(h:QL p=true)(i:p.A[j]?=some f){m:Item}(r:m∈itsOf p j f):(sheetOf p).l[(m.s.id-1).toNat]?=some m:=by
 have w:=UU (QB h).1 i (DY r);obtain⟨u,q,t⟩:=GM i (k:=(m.s.id-1).toNat) (by omega) (by omega);have v:=V3 h i (by omega) (by omega) q;rw[q,q2v (QB h).1 i t r (by omega)]
def Oe{p:Pg}(h:QL p=true):∃(k:Nat) (f:Pr),p.A[k]?=some f/\p.A.filter (fun f=>f.name==mainS)=[f]/\f.name=mainS/\f.B=[]:=by
 obtain⟨D,d,_⟩:=QB h;obtain⟨_,q,_⟩:=KG d;unfold WO at q;simp only[x8p,Bool.not_eq_false']at q;obtain⟨_,y,z,u⟩:=q;have hnd:=TW y;obtain⟨k,w,C,v⟩:=T3 z;have a:=x9j v;have x:p.A[k].name=mainS:=by
  have:mainS=p.A[k].name:=by simpa using a
  exact this.symm
 rw [v]at u;have c:p.A[k].B=[]:=x6k (by simpa using u);refine⟨k,p.A[k],x3e w,?_,x,c⟩;have key:∀(l:List Pr),(l.map Pr.name).Nodup->∀f∈l,f.name=mainS->l.filter (fun f=>f.name==mainS)=[f]:=fun l=>by
  induction l with
  |nil=>intro _ f m;cases m
  | cons g r e=>
    intro hnd f m i;rw[x4o,x6q]at hnd;rcases x4v.1 m with rfl|m
    .rw [x7y (by simp[i])];congr 1;rw[List.filter_eq_nil_iff];intro g b t;exact hnd.1 (by rw[i,<-show g.name=mainS by simpa using t];exact x7g b)
    .rw [x7b (by
      intro t;exact hnd.1 (by rw[show g.name=mainS by simpa using t,<-i];exact x7g m))]
     exact e hnd.2 f m i
 exact key p.A hnd _ (x4h w) x
section
variable {p:Pg}{k:Nat}{f:Pr}
end
theorem G9:∀(l:List Pr){n:Nat}{m:Int},ZW n l=some m->∀(j:Nat)(f:Pr),l[j]?=some f->∃i,JA 1 ((n+QS l j:Nat):Int) f.body=some i
 |[],_,_,_,j,f,hj=>by simp at hj
 | g::r,n,m,h,j,f,hj=>by
   rw[ZW]at h;cases w:PK g<;>rw[w]at h
   ·cases h
   simp only[x4s]at h;split at h
   ·rename_i x q;cases j with
    | zero=>
      cases hj;exact⟨x,q⟩
    | succ j=>
      have u:=KK _ _ g.body q;have t:ZW ((n+QJ g.body:Nat):Int) r=some m:=by rw[<-h,u];rfl
      obtain⟨i,v⟩:=G9 r t j f (by simpa using hj);exact⟨i,by rw[<-v,QS];congr 1;omega⟩
   ·cases h
theorem q4n{p:Pg}(h:BC p=true)(l:p.A[j]?=some f):∃m,JA 1 ((QS p.A j:Nat):Int) f.body=some m:=by
 unfold BC at h;simp only[x4n]at h;obtain⟨m,q⟩:=Option.isSome_iff_exists.1 h.2;obtain⟨r,i⟩:=G9 p.A (n:=0) q j f l;exact⟨r,by rw[<-i];congr 1;omega⟩
section
variable {p:Pg}{k:Nat}{f:Pr}
end
theorem FollowP.no{n:Nat}(h:FollowP n nx fm){a b:Nat}(x:b<n)(ha:Avd nx n b a):bitF fm a b=false:=by
 have r:∀c,n<=c->bitF fm c b=false:=fun c y=>by
  unfold bitF;rw[x3i (l:=fm),x6j (by rw[h.inv.len];exact y)];rfl
 have i:n-1≠b->bitF fm (n-1) b=false:=fun w=>by
  unfold bitF;rw[h.inv.last,Kn x,x5r w,x5r (by omega)];rfl
 induction ha with
 |exit z=>exact i (x7d z)
 | @step a t m A _ B=>
   rcases Nat.lt_trichotomy a (n-1)with v|u|e
   ·have q:bitF fm a b=(rowF n nx fm a).getD b false:=by
     unfold bitF;rw[h.fix a v]
    rw[q,Wo x,x5r m];cases g:KA fm (nx.getD a []) b with
    |false=>rfl
    | true=>
      have:=GN.1 g _ A;rw[x5u,B]at this;cases this
   ·subst u;exact i m
   ·exact r a (by omega)
theorem FollowP.iff{n:Nat}(h:FollowP n nx fm){a b:Nat}(ha:a<n)(l:b<n):bitF fm a b=true ↔ ¬Avd nx n b a:=by
 constructor
 .intro i m;rw[h.no l m]at i;cases i
 .intro i;cases q:bitF fm a b with
  |true=>rfl
  |false=>exact absurd (h.inv.min a b ha l q) i
theorem IU{n:Nat}{f g:List (List Bool)}(w:f.length=n)(x:g.length=n)(m:∀r∈f,r.length=n)(q:∀r∈g,r.length=n)(h:∀a b,a<n->b<n->bitF f a b=bitF g a b):f=g:=by
 refine z0l (by omega) fun a ha i=>?_;have v:=m _ (x4h ha);have e2:=q _ (x4h i);refine z0l (by omega) fun b t u=>?_;have:=h a b (by omega) (by omega);unfold bitF at this;rw[x3i (l:=f),x3i (l:=g),x3e ha,x3e i]at this;simp only[x5b]at this;rw[x3i,x3i,x3e t,x3e u]at this;exact this
theorem FollowP.uniq{n:Nat}{f g:List (List Bool)}(i:FollowP n nx f)(l:FollowP n nx g):f=g:=by
 refine IU i.inv.len l.inv.len i.inv.rows l.inv.rows fun a b ha m=>?_;rw[x8s,i.iff ha m,l.iff ha m]
noncomputable def q7z(n:Nat)(nx:List (List Int)):List (List Bool):=@Classical.epsilon _ ⟨[]⟩ (FollowP n nx)
theorem FollowP.eq{n:Nat}(h:FollowP n nx fm):fm=q7z n nx:=h.uniq (Classical.epsilon_spec ⟨fm,h⟩)
theorem Bt:∀(l:List (Int×Int))(rows:List (List Int)),(∀t∈l,0<=t.1/\t.1<rows.length)->∀(a:Nat)(x:Int),x∈(l.foldl nxE rows).getD a []↔x∈rows.getD a []\/∃t∈l,t.1=a/\t.2=x
 |[],rows,_,a,x=>by simp
 | t::r,rows,h,a,x=>by
   obtain⟨w,y⟩:=h t x4z;rw[x7v,Bt r (nxE rows t) (fun u v=>by rw[AD];exact h u (x4x _ v))];have e:x∈(nxE rows t).getD a []↔x∈rows.getD a []\/(t.1=a/\t.2=x):=by
    unfold nxE;simp only[x3i,z0j];by_cases m:t.1.toNat=a
    ·subst m;have q:t.1=(t.1.toNat:Int):=by omega
     rw[if_pos rfl,if_pos (by omega)];simp only[x5b,x4g,x4w];constructor
     ·rintro(i|i)
      ·exact .inl i
      ·exact .inr ⟨q,i.symm⟩
     ·rintro(i|⟨_,i⟩)
      ·exact .inl i
      ·exact .inr i.symm
    ·rw[if_neg m];constructor
     ·exact .inl
     ·rintro(i|⟨i,_⟩)
      ·exact i
      ·omega
   rw[e];simp only[x4v,exists_eq_or_imp,or_assoc]
def GD{n:Nat}{l:List (Int×Int)}(h:∀t∈l,0<=t.1/\t.1<n){a:Nat}{x:Int}:x∈(VQ n l).getD a [] ↔ ∃t∈l,t.1=a/\t.2=x:=by
 unfold VQ;rw[Bt l _ (by simpa using h)];have:(List.replicate n ([]:List Int)).getD a []=[]:=by
  rw[x3i,x5v];split<;>rfl
 rw[this];simp
inductive AvdP(R:Int->Int->Prop)(b:Int):Int->Prop
 |exit (h:b ≠ -1):AvdP R b (-1)
 |step {a t:Int} (hab:a≠b) (hs:R a t) (h:AvdP R b t):AvdP R b a
mutual
theorem q0u:∀(t:S){nest seen m:Int},N9 nest seen t=some m->∀u∈flS t,oneOk u=true
 | .mk id kind Y name pr x has args V Z,nest,seen,m,h,u,hu=>by
   obtain⟨h1,_,m1,h3,h4⟩:=Xr h;rw[flS]at hu;rcases x4v.1 hu with rfl|hu
   ·exact h1
   ·rcases x4g.1 hu with hu|hu
    ·exact V0 V h3 u hu
    ·exact V0 Z h4 u hu
theorem V0:∀(l:List S){nest seen m:Int},JA nest seen l=some m->∀u∈flL l,oneOk u=true
 |[],_,_,_,_,u,hu=>by rw[flL]at hu;cases hu
 | t::r,nest,seen,m,h,u,hu=>by
   obtain⟨_,m1,h1,h2⟩:=BI h;rw[flL]at hu;rcases x4g.1 hu with hu|hu
   ·exact q0u t h1 u hu
   ·exact V0 r h2 u hu
end
def IY{p:Pg}(h:QL p=true)(i:p.A[j]?=some f){t:S}(q:t∈flL f.body):OneF t:=by
 obtain⟨m,l⟩:=q4n (QB h).1 i;exact AM (V0 _ l t q)
section
variable {p:Pg}{j:Nat}{f:Pr}
def q1m(p:Pg)(j:Nat)(f:Pr):Int->Int->Prop:=stR (S7 (QQ p j f) f)
theorem q3g(h:QL p=true)(q:p.A[j]?=some f):(S7 (QQ p j f) f).length<=200000:=by
 obtain⟨_,_,r⟩:=XF h;obtain⟨_,_,_,w,u⟩:=QU p;obtain⟨_,_,b,_⟩:=u j f q;obtain⟨x,y,_⟩:=GB (q1l h q);have z:=LE (l:=S7 (QQ p j f) f) (m:=((QQ p j f).real++(Qn (QS p.A j) (QJ f.body)).map fun id=>⟨id,-1,3⟩)++[⟨0,-1,2⟩]++(itsOf p j f).flatMap fOf) (T2 x) fun s d=>by
  rcases x4g.1 (y s d)with i|i
  ·refine x4g.2 (.inl ?_);rcases x4g.1 i with i|i
   ·refine x4g.2 (.inl ?_);rcases x4g.1 i with i|i
    ·obtain⟨l,G,t,e,a,F,rfl⟩:=(PZ h q).1 i;have v:=UU (QB h).1 q e;exact x4g.2 (.inr (x4y.2 ⟨t.id,RG v.1 v.2,rfl⟩))
    ·exact x4g.2 (.inl i)
   ·exact x4g.2 (.inr i)
  ·exact x4g.2 (.inr i)
 have i:=Fe q r;have C:(Qn (QS p.A j) (QJ f.body)).length=QJ f.body:=by unfold Qn;simp
 have D:=ZQ (g:=fOf) (c:=1) (itsOf p j f) fun B _=>q3t B;have E:(itsOf p j f).length=QJ f.body:=XS _ _ _ _ _ _;simp only[x3o,x3a,x4i]at z;omega
theorem Cn(h:QL p=true)(x:p.A[j]?=some f){a b:Int}:q1m p j f a b↔wR p j f a b\/(a=0/\b = -1)\/(∃l∈trapsW (QQ p j f) f,∃t∈flL f.body,t.id∈l/\t.kind=10/\a=t.id/\b = -1)\/∃u∈itsOf p j f,7<=u.s.kind/\a=u.s.id/\b=u.next:=by
 have d:=GB (q1l h x);have i:∀s,s∈Ve (QQ p j f) f↔s∈WQ (QQ p j f) f\/s∈(QQ p j f).real\/s=⟨0,-1,2⟩\/s∈(itsOf p j f).flatMap fOf:=fun s=>by
  have e:Ve (QQ p j f) f=WQ (QQ p j f) f++(QQ p j f).real++[⟨0,-1,2⟩]++(itsOf p j f).flatMap fOf:=rfl;rw[e];simp only[x4g,x4w,or_assoc]
 have r:∀s∈Ve (QQ p j f) f,q1m p j f s.src s.dst:=fun s m=>by
  obtain⟨s',q,g,B,_⟩:=d.2.2 s m;exact⟨s',q,g,B⟩
 constructor
 ·rintro⟨s,m,rfl,rfl⟩;rcases(i s).1 (d.2.1 s m)with q|q|q|q
  ·obtain⟨l,z,t,c,v,y,rfl⟩:=(PZ h x).1 q;exact .inr (.inr (.inl ⟨l,z,t,c,v,y,rfl,rfl⟩))
  ·exact .inl ⟨s,q,rfl,rfl⟩
  ·rw[q];exact .inr (.inl ⟨rfl,rfl⟩)
  ·obtain⟨u,w,m⟩:=x4a.1 q;unfold fOf at m;split at m
   ·rw[x4w.1 m];exact .inr (.inr (.inr ⟨u,w,by omega,rfl,rfl⟩))
   ·cases m
 ·rintro(⟨s,m,rfl,rfl⟩|⟨rfl,rfl⟩|⟨l,z,t,c,v,y,rfl,rfl⟩|⟨u,w,y,rfl,rfl⟩)
  ·exact r s ((i s).2 (.inr (.inl m)))
  ·exact r ⟨0,-1,2⟩ ((i _).2 (.inr (.inr (.inl rfl))))
  ·exact r ⟨t.id,-1,3⟩ ((i _).2 (.inl ((PZ h x).2 ⟨l,z,t,c,v,y,rfl⟩)))
  ·refine r ⟨u.s.id,u.next,2⟩ ((i _).2 (.inr (.inr (.inr (x4a.2 ⟨u,w,?_⟩)))));have C:=(IY h x (DY w)).hi;unfold fOf;rw[if_pos (by omega)];exact x4w.2 rfl
theorem Hf(h:QL p=true)(q:p.A[j]?=some f){a b:Int}(d:q1m p j f a b):plP p j f a/\plP p j f b/\a ≠ -1/\b≠0:=by
 have m:∀t∈flL f.body,plP p j f t.id/\t.id ≠ -1:=fun t r=>by
  have y:=UU (QB h).1 q r;exact⟨.inr (.inr y),by omega⟩
 rcases(Cn h q).1 d with i|⟨rfl,rfl⟩|⟨l,B,t,r,z,c,rfl,rfl⟩|⟨C,u,c,rfl,rfl⟩
 ·obtain⟨w,x⟩:=q8n h q i;refine⟨w,x,?_,fun e=>OY h q (e▸i)⟩;obtain⟨s,g,rfl,rfl⟩:=i;rcases OI h q (((Q5 h q).2 s).1 g)with v|v
  ·rw[v];show(0:Int) ≠ -1;decide
  ·omega
 ·exact⟨.inl rfl,.inr (.inl rfl),by decide,by decide⟩
 ·exact⟨(m t r).1,.inr (.inl rfl),(m t r).2,by decide⟩
 ·have i:=(Y0 u).1;unfold okI at i;refine⟨(m _ (DY u)).1,?_,(m _ (DY u)).2,by omega⟩;rcases i with i|i
  ·exact .inr (.inl i)
  ·exact .inr (.inr i)
def Tj:WW (QQ p j f) f=(S7 (QQ p j f) f).map (ixP p j f (QJ f.body+2:Nat)):=rfl
def Fc(h:QL p=true)(q:p.A[j]?=some f):∀t∈WW (QQ p j f) f,(0<=t.1/\t.1<(QJ f.body+2:Nat))/\0<=t.2/\t.2<(QJ f.body+2:Nat):=fun t i=>by
 rw[Tj]at i;obtain⟨s,r,rfl⟩:=x4y.1 i;obtain⟨l,m,_⟩:=Hf h q ⟨s,r,rfl,rfl⟩;exact⟨WU l,WU m⟩
def Ty(h:QL p=true)(v:p.A[j]?=some f){a b:Int}(ha:plP p j f a)(u:plP p j f b):(ixI p j f a,ixI p j f b)∈WW (QQ p j f) f↔q1m p j f a b:=by
 rw[Tj];constructor
 .intro q;obtain⟨s,i,l⟩:=x4y.1 q;obtain⟨r,t,_⟩:=Hf h v ⟨s,i,rfl,rfl⟩;have m:ixI p j f s.src=ixI p j f a:=x6h Prod.fst l;have e2:ixI p j f s.dst=ixI p j f b:=x6h Prod.snd l;exact⟨s,i,DJ r ha m,DJ t u e2⟩
 .rintro ⟨s,i,rfl,rfl⟩;exact x4y.2 ⟨s,i,rfl⟩
def Fy:ixI p j f (-1)=(QJ f.body+2:Nat)-1:=by
 unfold ixI JN;rw[if_neg (by decide),if_pos rfl]
theorem q3h(h:QL p=true)(z:p.A[j]?=some f){a b:Int}(ha:plP p j f a)(c:plP p j f b):Avd (VQ (QJ f.body+2) (WW (QQ p j f) f)) (QJ f.body+2) (ixI p j f b).toNat (ixI p j f a).toNat↔AvdP (q1m p j f) b a:=by
 have l:=Fc h z;have C:=WU c;constructor
 ·intro y;generalize F:(ixI p j f a).toNat=x at y;induction y generalizing a with
  | exit i=>
    have m:=WU ha;have:a = -1:=DJ ha (.inr (.inl rfl)) (by rw[Fy];omega);subst this;refine .exit fun e=>?_;subst e;rw[Fy]at i;omega
  | @step x t i r _ d=>
    obtain⟨u,E,H,I⟩:=(GD (fun t r=>(l t r).1)).1 r;obtain⟨s,q,g⟩:=x4y.1 E;obtain⟨v,w,_⟩:=Hf h z ⟨s,q,rfl,rfl⟩;have G:ixI p j f s.src=u.1:=x6h Prod.fst g;have e2:ixI p j f s.dst=u.2:=x6h Prod.snd g;have m:=WU ha;have B:s.src=a:=DJ v ha (by omega);refine .step (fun e=>?_) ⟨s,q,B,rfl⟩ (d w (by omega));subst e;exact i F.symm
 ·intro y;induction y with
  | exit i=>
    rw[Fy,show(((QJ f.body+2:Nat):Int)-1).toNat=QJ f.body+2-1 by omega];refine .exit fun e=>i (DJ c (.inr (.inl rfl)) (by rw[Fy];omega))
  | @step a t i q _ d=>
    obtain⟨v,w,_⟩:=Hf h z q;have m:=WU v;have D:=WU w;refine .step (t:=(ixI p j f t).toNat) (fun e=>i (DJ v c (by omega))) ?_ (d w);refine(GD (fun t r=>(l t r).1)).2 ⟨_,(Ty h z v w).2 q,?_,?_⟩
    ·show ixI p j f a=_;omega
    ·show ixI p j f t=_;omega
def q8r(p:Pg)(j:Nat)(f:Pr)(a b:Int):Prop:=¬AvdP (q1m p j f) b a
def q8l(p:Pg)(j:Nat)(f:Pr)(a b:Int):Prop:=∃t,q1m p j f a t/\q8r p j f t b/\(a=b\/¬q8r p j f a b)
noncomputable def IF(w:Way)(f:Pr)(n:Nat):List (Int×Int):=(List.range n).flatMap fun(x:Nat)=>((List.range n).filter fun y=>mkM n (q7z n (VQ n (WW w f))) (WW w f) x y).map fun(y:Nat)=>(QF w.p w.j w.n x,QF w.p w.j w.n y)
def q3p{w:Way}{n:Nat}{M:List (List Bool)}(i:FollowP n (VQ n (WW w f)) fm)(h:∀a b,a<n->b<n->bitF M a b=mkM n fm (WW w f) a b):AS (QF w.p w.j w.n) M n n=IF w f n:=by
 rw[i.eq]at h;unfold AS IF;have l:∀x∈List.range n,((List.range n).filter fun y=>bitF M x y).map (fun(y:Nat)=>(QF w.p w.j w.n x,QF w.p w.j w.n y))=((List.range n).filter fun y=>mkM n (q7z n (VQ n (WW w f))) (WW w f) x y).map fun(y:Nat)=>(QF w.p w.j w.n x,QF w.p w.j w.n y):=fun x m=>by
  rw[z0y fun y q=>h x y (x5a.1 m) (x5a.1 q)]
 rw[List.flatMap_def,List.flatMap_def,x9s l]
def Rl(w:Way)(n:Nat):(IF w f n).length<=n*n:=by
 unfold IF;have h:=ZQ (g:=fun(x:Nat)=>((List.range n).filter fun y=>mkM n (q7z n (VQ n (WW w f))) (WW w f) x y).map fun(y:Nat)=>(QF w.p w.j w.n x,QF w.p w.j w.n y)) (c:=n) (List.range n) fun x _=>by
  rw[x3a];exact x5y (x6p _ _) (by simp)
 rw[x6l]at h;exact h
end
theorem F3{p:Pg}(h:QL p=true)(m:p.A[j]?=some f)(l:FollowP (QJ f.body+2) (VQ (QJ f.body+2) (WW (QQ p j f) f)) fm){a b:Int}(ha:plP p j f a)(i:plP p j f b):bitF fm (ixI p j f a).toNat (ixI p j f b).toNat=true↔q8r p j f a b:=by
 have q:=WU ha;have r:=WU i;unfold q8r;rw[l.iff (by omega) (by omega),q3h h m ha i]
theorem ID{p:Pg}(h:QL p=true)(r:p.A[j]?=some f)(c:FollowP (QJ f.body+2) (VQ (QJ f.body+2) (WW (QQ p j f) f)) fm){a b:Int}:(a,b)∈IF (QQ p j f) f (QJ f.body+2)↔plP p j f a/\plP p j f b/\0<b/\q8l p j f a b:=by
 have M:=Fc h r;have e:q7z (QJ f.body+2) (VQ (QJ f.body+2) (WW (QQ p j f) f))=fm:=c.eq.symm;have key:∀a b:Int,plP p j f a->plP p j f b->(mkM (QJ f.body+2) fm (WW (QQ p j f) f) (ixI p j f a).toNat (ixI p j f b).toNat=true↔0<b/\q8l p j f a b):=fun a b ha u=>by
  have g:=WU ha;have v:=WU u;have E:(decide (1<=(ixI p j f b).toNat)&&decide ((ixI p j f b).toNat<QJ f.body+2-1))=true↔0<b:=by
   rw[x4n,x5k,x5k];have F:=u;unfold plP at F;unfold ixI JN loI hiI at v⊢
   (repeat' split)<;>omega
  unfold mkM;rw[x4n,E,x6s];refine and_congr_right fun _=>?_;unfold q8l;constructor
  ·rintro⟨t,B,m⟩;rw[x4n,x5k]at m;obtain⟨s,J,d⟩:=x4y.1 B;obtain⟨z,l,_⟩:=Hf h r ⟨s,J,rfl,rfl⟩;have C:ixI p j f s.src=t.1:=x6h Prod.fst d;have e2:ixI p j f s.dst=t.2:=x6h Prod.snd d;have I:s.src=a:=DJ z ha (by omega);have q:=m.2;unfold CJ at q;rw[x4n,x7r,x5k,<-e2,<-C,I,F3 h r c l u]at q;refine⟨s.dst,⟨s,J,I,rfl⟩,q.1,?_⟩;rcases q.2 with D|D
   ·exact .inl (DJ ha u (by omega))
   ·refine .inr fun L=>?_;rw[(F3 h r c ha u).2 L]at D;cases D
  ·rintro⟨t,B,m,q⟩;obtain⟨z,l,_⟩:=Hf h r B;refine⟨_,(Ty h r z l).2 B,?_⟩;rw[x4n,x5k];refine⟨by show ixI p j f a=_;omega,?_⟩;unfold CJ;rw[x4n,x7r,x5k];refine⟨(F3 h r c l u).2 m,?_⟩;rcases q with rfl|q
   ·exact .inl (by show ixI p j f a=_;omega)
   ·refine .inr ?_;cases O:bitF fm (ixI p j f a).toNat (ixI p j f b).toNat with
    |false=>rfl
    |true=>exact absurd ((F3 h r c ha u).1 O) q
 unfold IF;rw[e,x4a];constructor
 ·rintro⟨x,Q,m⟩;obtain⟨y,R,d⟩:=x4y.1 m;obtain⟨G,H⟩:=x5h.1 R;rw[x5a]at Q G;obtain⟨w,z⟩:=BS (p:=p) (j:=j) (f:=f) (i:=(x:Int)) (by omega);obtain⟨l,K⟩:=BS (p:=p) (j:=j) (f:=f) (i:=(y:Int)) (by omega);have C:QF p j (QJ f.body+2:Nat) x=a:=x6h Prod.fst d;have e2:QF p j (QJ f.body+2:Nat) y=b:=x6h Prod.snd d;rw[C]at w z;rw[e2]at l K;have:=key a b w l;rw[z,K,x5u,x5u]at this;exact⟨w,l,this.1 H⟩
 ·rintro⟨w,l,m⟩;have g:=WU w;have v:=WU l;refine⟨(ixI p j f a).toNat,x5a.2 (by omega),x4y.2 ⟨(ixI p j f b).toNat,x5h.2 ⟨x5a.2 (by omega),(key a b w l).2 m⟩,?_⟩⟩;show(QF p j (QJ f.body+2:Nat) _,QF p j (QJ f.body+2:Nat) _)=_;rw[x8f g.1,x8f v.1,Fs w,Fs l]
theorem A5{n:Nat}(z:∀a,∀x∈nx.getD a [],0<=x/\x<(n:Int)):∃fm,FollowP n nx fm:=by
 let F:Nat->Nat->Bool:=fun a b=>@decide (¬Avd nx n b a) (Classical.propDecidable _);have w:∀a b,F a b=true ↔ ¬Avd nx n b a:=fun a b=>by simp only[F];exact @x8q _ (Classical.propDecidable _)
 have q:∀a,a<n->((List.range n).map fun a=>(List.range n).map fun b=>F a b).getD a []=(List.range n).map fun b=>F a b:=fun a ha=>by
  rw[x3i,x4q,x7z ha];rfl
 have l:∀a b,a<n->b<n->bitF ((List.range n).map fun a=>(List.range n).map fun b=>F a b) a b=F a b:=fun a b ha i=>by
  unfold bitF;rw[q a ha,x3i,x4q,x7z i];rfl
 have v:∀a b,a<n-1->b<n->F a b=(rowF n nx ((List.range n).map fun a=>(List.range n).map fun b=>F a b) a).getD b false:=fun a b ha i=>by
  rw[Wo i,x8s,w,x7r,x5k,GN];constructor
  ·intro h;by_cases m:a=b
   ·exact .inl m
   ·refine .inr fun t c=>?_;have g:=z a t c;rw[l _ _ (by omega) i,w];exact fun u=>h (.step m (by rw[x8f g.1];exact c) u)
  ·rintro h u;cases u with
   |exit y=>omega
   | @step _ t m c d=>
     have g:=z a _ c;rcases h with h|h
     ·exact m h
     ·have A:=h _ c;rw[x5u,l _ _ (by omega) i,w]at A;exact A d
 refine⟨(List.range n).map fun a=>(List.range n).map fun b=>F a b,⟨by simp,fun r g=>?_,?_,fun a b ha i h=>?_,fun a b ha i h=>?_⟩,fun a ha=>?_⟩
 ·obtain⟨a,_,rfl⟩:=x4y.1 g;simp
 ·cases n with
  |zero=>rfl
  | succ n=>
    rw[q _ (by omega)];unfold filRow;refine x9s fun b i=>?_;rw[x5a]at i;rw[x8s,w,x7r,x5k,x5k];constructor
    ·intro h;refine .inr (x7p fun C=>h ?_);exact .exit fun e=>C e.symm
    ·rintro(h|h) u
     ·omega
     ·cases u with
      |exit y=>exact y h.symm
      |step m _ _=>exact m h
 ·rw[l a b (by omega) i,v a b ha i];exact h
 ·rw[l a b ha i]at h;refine x7p fun u=>?_;rw[(w a b).2 u]at h;cases h
 ·rw[q a (by omega)];refine z0l (by rw[Q7];simp) fun b B u=>?_;have i:b<n:=by simpa using B
  have d:=v a b ha i;rw[x3i,x3e u]at d;simp only[x8i,z0q];exact d
def AG{n:Nat}{l:List (Int×Int)}(h:∀t∈l,(0<=t.1/\t.1<n)/\0<=t.2/\t.2<n):∀a,∀x∈(VQ n l).getD a [],0<=x/\x<(n:Int):=fun a x m=>by
 obtain⟨t,i,_,rfl⟩:=(GD fun t i=>(h t i).1).1 m;exact(h t i).2
def q3n{p:Pg}(h:QL p=true)(i:p.A[j]?=some f){a b:Int}:(a,b)∈IF (QQ p j f) f (QJ f.body+2)↔plP p j f a/\plP p j f b/\0<b/\q8l p j f a b:=by
 obtain⟨fm,l⟩:=A5 (n:=QJ f.body+2) (AG (Fc h i));exact ID h i l
namespace Own
end Own
open Go.Proofs
def rng(a b:Int)(v:Int):Prop:=a<=v/\v<=b
def x2k(l:List Int)(i:Nat):Int:=l.getD i 0
def srt(K:Int->Int)(l:List Int)(a b:Nat):Prop:=∀i k,a<=i->i<k->k<b->K (x2k l k)<=K (x2k l i)
def blk(K:Int->Int)(l:List Int)(bs n:Nat):Prop:=∀q,srt K l (q*bs) (min (q*bs+bs) n)
theorem AB:∀(l:List Pr)(j:Nat),QS l j<=cntP l
 |_,0=>by rw[QS];omega
 |[],j+1=>by rw[QS];omega
 |g::r,j+1=>by rw[QS,cntP];have:=AB r j;omega
section
variable {p:Pg}{j:Nat}{f:Pr}
end
section
variable {p:Pg}{j:Nat}{f:Pr}
end
structure Book where
 s:Sheet
 ways:List Way
 M:List (List Str)
 zb:List (List Str)
 ins:List (List Str)
 za:List (List Str)
def Book.cells(b:Book):List AV:=[.ip b.s.cells,.sl (b.ways.map fun w=>.ip w.cells),.sl (b.M.map eStrs),.sl (b.zb.map eStrs),.sl (b.ins.map eStrs),.sl (b.za.map eStrs)]
def JE:Str:=[36,105,110]
def comB(p:Pg)(n:Str):Bool:=(n==JE)||p.F.any fun s=>n==s
theorem YI(b:Book)(n:Str):aP 138 [.ip b.cells,.str n] (.bool (comB b.s.p n)):=by
 refine sC MJ func138 ?_;conv=>whnf
 repeat' ((first|refine cP (QZ _ _) ?_|(apply bB<;>intro _))<;>conv=>whnf)
 all_goals first
  | (have h:(n==JE)=true:=by assumption
     exact RetK.tt (by unfold comB;rw[h];rfl))
  | (have h:(n==JE)=false:=by assumption
     exact RetK.bool (by unfold comB;rw[h,Bool.false_or]))
theorem HR(p:Pg)(j:Nat)(f:Pr)(h:QL p=true)(r:p.A[j]?=some f)(id:Int)(i:plP p j f id):aP 110 [.ip (QQ p j f).cells,.int .i64 id] (.bool ((QQ p j f).live.getD (ixI p j f id).toNat false)):=by
 refine sC Vu func110 ?_;conv=>whnf
 have hT:=q2e h r;have l:=Qd (QQ p j f) f hT.hj hT.hc (by have:=hT.hn2;have:=hT.hn;have:=hT.hw;omega) id;have m:JN (loI (QQ p j f).p (QQ p j f).j) (hiI (QQ p j f).p (QQ p j f).j f) (QQ p j f).n id=ixI p j f id:=rfl;rw[m]at l;have u:=WU i;have t:(QQ p j f).live.length=QJ f.body+2:=by show(Qw _ (List.replicate (QJ f.body+2) false)).length=_;rw[Xc];simp
 generalize ixI p j f id=ix at*
 have q:((QQ p j f).live.map bv)[ix.toNat]?=some (bv ((QQ p j f).live.getD ix.toNat false)):=by
  rw[x4q,x3i,x3e (by omega)];rfl
 generalize(QQ p j f).live.getD ix.toNat false=v at*
 cases v;all_goals
  repeat' ((first|refine dA ?_|refine cP l ?_|refine iT q ?_)<;>conv=>whnf)
 all_goals first
  |exact RetK.tt rfl
  |exact RetK.ff rfl
theorem Un(l:List Str)(h:l.length<=1000000000):aH 104 [.hd 1000 0 l.length] [(1000,.own 9 1 (l.map .str))] (.hd 1000 0 (VK l).length) [(1000,.own 9 1 ((VK l).map .str))]:=by
 refine sK H4 func104 ?_;conv=>whnf
 repeat' ((first|(refine cH rH5 0 (VM l h) ?_)|(refine cH rH5 0 (KE (YK l) (by rw[ZY];omega)) ?_ (ha:=(x5w (x8o (by rw[ZY];rfl)) x6e))))<;>conv=>whnf)
 all_goals first
  |exact x6n _ (x4c _) ⟨rfl,rfl⟩
def ZI(b:Book)(t:S):aP 136 [.ip b.cells,.agg t.cells] (.int .i64 (idxF (fun f=>f.name==t.C) b.s.p.A)):=by
 refine sC MY func136 ?_;conv=>whnf
 have h:=ZD b.s t.C;repeat' ((first|refine dA ?_|refine cP h ?_)<;>conv=>whnf)
 all_goals exact RetK.p rfl
def q8i(O:List Str)(x:Arg×Param):Bool:=x.1.ref&&inS O x.2.name
def E2(t:S)(f:Pr)(O:List Str)(j:Nat):List Str:=(((t.args.zip f.B).take j).filter (q8i O)).map fun x=>x.1.name
def Iw(p:Pg)(t:S)(f:Pr)(O:List Str):List Str:=(if t.name=[]then []else [t.name])++E2 t f O t.args.length++O.filter (comB p)
theorem Td(t:S)(f:Pr)(O:List Str)(j:Nat):(E2 t f O j).length<=j:=by
 unfold E2;rw[x3a];exact x5y (x6p _ _) (by rw[x5z];omega)
theorem E3{t:S}{O:List Str}(l:j<t.args.length)(m:j<f.B.length):E2 t f O (j+1)=E2 t f O j++(if t.args[j].ref=true/\inS O f.B[j].name=true then [t.args[j].name]else []):=by
 have i:j<(t.args.zip f.B).length:=by rw[List.length_zip];omega
 unfold E2;rw[x4k i,x6y,x4d];congr 1;have e:(t.args.zip f.B)[j]=(t.args[j],f.B[j]):=List.getElem_zip;rw[e];by_cases h:t.args[j].ref=true/\inS O f.B[j].name=true
 ·rw[if_pos h,x7y (by unfold q8i;simp[h])];rfl
 ·rw[if_neg h,x7b (by unfold q8i;simpa using h)];rfl
theorem Wq(b:Book)(t:S)(i:Nat)(f:Pr)(O:List Str)(hi:idxF (fun f=>f.name==t.C) b.s.p.A=i)(hf:b.s.p.A[i]?=some f)(U:b.za[i]?=some O)(hs:O.Pairwise ltT)(hl:O.length<=1000000)(ha:t.args.length<=f.B.length)(Y:t.args.length<=1000000):SpecH prog 161 [.p (.ip b.cells),.p (.agg t.cells)] [] (fun r H=>OneRow (Jg (Iw b.s.p t f O)) False r H):=by
 refine sK MK func161 ?_;conv=>whnf
 have K:=ZI b t;rw[hi]at K;have hH:=fun x=>BL O x hs (by omega);have E:=fun x=>YI b x;have z:(b.za.map eStrs)[i]?=some (eStrs O):=by rw[x4q,U];rfl
 have I:(b.s.p.A.map fun f=>AV.agg f.cells)[i]?=some (.agg f.cells):=by rw[x4q,hf];rfl
 have Z:(t.args.map fun a=>AV.agg a.cells).length=t.args.length:=x3a _;have V:(O.map AV.str).length=O.length:=x3a _;repeat' ((first|(refine gX ?_;intros)|refine WK (es:=[]) rfl (by simp) ?_|refine cP K ?_|(apply bN<;>intro _))<;>conv=>whnf)
 all_goals
  refine LoopK.inv XM (fun x:Nat×List Str=>⟨[(0,.p (.ip b.cells)),(5,.hd 0 0 x.2.length),(6,.j i),(23,.p (.sl (t.args.map fun a=>.agg a.cells))),(24,.p (.int .i64 (t.args.map fun a=>AV.agg a.cells).length)),(25,.j x.1)],[(0,.own 9 1 (x.2.map .str))]⟩) (fun x=>x.1<=t.args.length/\x.2=(if t.name=[]then []else [t.name])++E2 t f O x.1) (fun x=>t.args.length-x.1) (0,if t.name=[]then []else [t.name]) ?_ ⟨x4j _,by simp[E2]⟩ ?_
  ·first
    | (have l:(t.name==[])=true:=by assumption
       rw[if_pos (eq_of_beq l)];exact lM [(0,.own 9 1 [])])
    | (have l:(t.name==[])=false:=by assumption
       rw[if_neg (by simpa using l)];exact Le.of_eq rfl)
  rintro⟨j,h⟩ ⟨M,v⟩;simp only at M v⊢;have L:h.length<=j+1:=by
   rw[v,x3o];have:=Td t f O j;split<;>simp<;>omega
  rcases x4f j t.args.length with d|d
  ·have e:j<f.B.length:=by omega
   have u:=E3 (O:=O) d e;have G:=hH f.B[j].name;have J:(f.B.map fun a=>AV.agg a.cells)[j]?=some (.agg f.B[j].cells):=by rw[x4q,x3e e];rfl
   conv=>whnf
   repeat' ((first|refine dA ?_|(refine gX ?_;intros)|refine iT z ?_|refine iT I ?_|refine iT J ?_|refine cP G ?_|refine WK (by simp) (by rw[x3a];omega) ?_|((first|apply bD|apply bB)<;>intro _<;>try omega))<;>conv=>whnf)
   all_goals first
    | (have l:t.args[j].ref=true:=by assumption
       have m:inS O f.B[j].name=true:=by assumption
       exact⟨(j+1,h++[t.args[j].name]),⟨d,by simp only;rw[u,if_pos (show t.args[j].ref=true/\inS O f.B[j].name=true from⟨l,m⟩),v,x4r]⟩,by simp only;omega,Le.of_eq (by simp only[x3o,x4d];rfl)⟩)
    | (have m:inS O f.B[j].name=false:=by assumption
       exact nX (j+1,h) ⟨d,by simp only;rw[u,if_neg (show ¬(t.args[j].ref=true/\inS O f.B[j].name=true)from fun c=>by rw[m]at c;cases c.2),x5m];exact v⟩)
    | (have l:t.args[j].ref=false:=by assumption
       exact nX (j+1,h) ⟨d,by simp only;rw[u,if_neg (show ¬(t.args[j].ref=true/\inS O f.B[j].name=true)from fun c=>by rw[l]at c;cases c.1),x5m];exact v⟩)
  ·obtain rfl:j=t.args.length:=by omega
   conv=>whnf
   repeat' ((first|(refine iM fun _=>?_)|refine iT z ?_|(apply bD<;>intro _<;>try omega))<;>conv=>whnf)
   refine lI (fun x:Nat×List Str=>⟨[(0,.p (.ip b.cells)),(5,.hd 0 0 x.2.length),(70,.p (eStrs O)),(71,.p (.int .i64 (O.map AV.str).length)),(72,.j x.1)],[(0,.own 9 1 (x.2.map .str))]⟩) (fun x=>x.1<=O.length/\x.2=h++(O.take x.1).filter (comB b.s.p)/\x.2.length<=h.length+x.1) (fun x=>O.length-x.1) (0,h) ⟨x4j _,by simp,by simp⟩ ?_;rintro⟨q,o⟩ ⟨Q,w,R⟩;simp only at Q w R⊢;rcases x4f q O.length with D|D
   ·have g:=x4k D;have F:=E O[q];conv=>whnf
    repeat' ((first|(refine gX ?_;intros)|refine cP F ?_|refine WK (by simp) (by rw[x3a];omega) ?_|((first|apply bD|apply bB)<;>intro _<;>try omega))<;>conv=>whnf)
    all_goals first
     | (have l:comB b.s.p O[q]=true:=by assumption
        exact⟨(q+1,o++[O[q]]),⟨D,by simp only;rw[g,x6y,x7y l,w,x4r];rfl,by simp;omega⟩,by simp only;omega,Le.of_eq (by simp only[x3o,x4d];rfl)⟩)
     | (have l:comB b.s.p O[q]=false:=by assumption
        exact nX (q+1,o) ⟨D,by simp only;rw[g,x6y,x7b (by rw[l];decide),w];simp,by simp only;omega⟩)
   ·rw[x4b D]at w;have y:o=Iw b.s.p t f O:=by rw[w,v];rfl
    subst y;conv=>whnf
    repeat' (apply bD<;>intro _<;>first|omega|conv=>whnf)
    all_goals exact x6n _ (x4c _) (OneRow.str rfl)
def retS:Str:=[36,114,101,116]
def caI(p:Pg)(t:S):Int:=idxF (fun f=>f.name==t.C) p.A
def caP(p:Pg)(t:S):Pr:=p.A.getD (caI p t).toNat Pr0
def caO(b:Book)(t:S):List Str:=b.za.getD (caI b.s.p t).toNat []
def FR(b:Book)(t:S):List Str:=if t.kind=1 then [t.name]else if t.kind=2 then [t.name,JE]else if t.kind=9 then [retS]else if t.kind=4 then Iw b.s.p t (caP b.s.p t) (caO b t)else []
structure CallOk(b:Book)(t:S):Prop where
 i0:0<=caI b.s.p t
 i1:(caI b.s.p t).toNat<b.s.p.A.length
 io:b.s.p.A.length<=b.za.length
 rise:(caO b t).Pairwise ltT
 len:(caO b t).length<=1000000
 args:t.args.length<=(caP b.s.p t).B.length
 al:t.args.length<=1000000
theorem CW{b:Book}{t:S}(h:CallOk b t):SpecH prog 161 ([AV.ip b.cells,.agg t.cells].map .p) [] (OneRow (Jg (Iw b.s.p t (caP b.s.p t) (caO b t))) False):=by
 have i:=h.i1;have l:=h.io;refine Wq b t (caI b.s.p t).toNat (caP b.s.p t) (caO b t) ?_ ?_ ?_ h.rise h.len h.args h.al
 ·rw[x8f h.i0];rfl
 ·unfold caP;rw[x3i,x3e i];rfl
 ·unfold caO;rw[x3i,x3e (by omega)];rfl
theorem Js(b:Book)(t:S)(l:t.kind=4->CallOk b t):SpecH prog 105 [.p (.ip b.cells),.p (.agg t.cells)] [] (fun r H=>OneRow (Jg (FR b t)) (FR b t=[]) r H):=by
 refine sK W0 func105 ?_;conv=>whnf
 have m:=fun h=>CW (l h);repeat' ((first|refine x4e rfl ?_|refine aD ?_|refine x9p (fun x i=>by rcases x4w.1 i with rfl;rfl) rfl ?_|refine x9p (fun x i=>by rcases x4v.1 i with rfl|i;rfl;rcases x4w.1 i with rfl;rfl) rfl ?_|(refine VL 0 rfl (m (by assumption)) (.cons (.p (Sub.refl _)) (.cons (.p (Sub.refl _)) .nil)) (fun h=>h.elim) ?_;rintro _ _ _ _ ⟨rfl,rfl,rfl⟩)|(apply bD<;>intro _<;>try omega))<;>conv=>whnf)
 ·rw[show FR b t=[t.name] by unfold FR;rw[if_pos (by assumption)]];exact x6n _ (x4c _) (UE (L:=[t.name]) rfl)
 ·rw[show FR b t=[t.name,JE] by unfold FR;rw[if_neg (by assumption),if_pos (by assumption)]];exact x6n _ (x4c _) (UE (L:=[t.name,JE]) rfl)
 ·rw[show FR b t=[retS] by unfold FR;rw[if_neg (by assumption),if_neg (by assumption),if_pos (by assumption)]];exact x6n _ (x4c _) (UE (L:=[retS]) rfl)
 ·rw[show FR b t=Iw b.s.p t (caP b.s.p t) (caO b t) by unfold FR;rw[if_neg (by assumption),if_neg (by assumption),if_neg (by assumption),if_pos (by assumption)]];exact x6n _ (x4c _) (UE (by rw[x3a]))
 ·exact x6n _ (x4c _) (.inl ⟨rfl,rfl,by unfold FR;rw[if_neg (by assumption),if_neg (by assumption),if_neg (by assumption),if_neg (by assumption)]⟩)
def outB(p:Pg)(f:Pr)(n:Str):Bool:=comB p n||decide ((⟨n,true⟩:Param)∈f.B)
def LW(D:List (List Str))(id:Int):List Str:=D.getD (id-1).toNat []
def q7s(p:Pg)(i:Nat)(f:Pr)(D:List (List Str))(h:Item):List Str:=bif (QQ p i f).live.getD (ixI p i f h.s.id).toNat false then(LW D h.s.id).filter (outB p f)else []
def M5(p:Pg)(i:Nat)(f:Pr)(D:List (List Str))(h:List Item):List Str:=h.flatMap (q7s p i f D)
def AT{p:Pg}{i:Nat}{D:List (List Str)}{h:List Item}{k:Nat}(l:k<h.length):M5 p i f D (h.take (k+1))=M5 p i f D (h.take k)++q7s p i f D h[k]:=by
 unfold M5;rw[x4k l,x6m];simp
def T8{p:Pg}{i:Nat}{D:List (List Str)}(q:∀d∈D,d.length<=1000)(l:List Item):(M5 p i f D l).length<=l.length*1000:=by
 refine ZQ l fun m _=>?_;unfold q7s;cases(QQ p i f).live.getD (ixI p i f m.s.id).toNat false with
 |false=>exact x4j _
 | true=>
   refine x5y (x6p _ _) ?_;unfold LW;rcases x4f (m.s.id-1).toNat D.length with h|h
   .rw [x3i,x3e h];exact q _ (x4h h)
   .rw [x3i,x6j h];exact x4j _
theorem Jc(b:Book)(p:Pg)(hp:b.s=sheetOf p)(h:QL p=true)(i:Nat)(f:Pr)(F:p.A[i]?=some f)(hW:b.ways[i]?=some (QQ p i f))(hD:b.M.length=(sheetOf p).l.length)(Y:∀d∈b.M,d.length<=1000):SpecH prog 106 [.p (.ip b.cells),.j i] [] (fun r H=>OneRow (Jg (M5 p i f b.M (itsOf p i f))) False r H):=by
 refine sK W1 func106 ?_;conv=>whnf
 obtain⟨R,_,_,Z,hs⟩:=QU p;obtain⟨s1,s2,s3,s4⟩:=hs i f F;have hcn:=(XF h).2.2;have J:=LK (sheetOf p) i (QS p.A i) (QS p.A i+QJ f.body) s1 s2 (by omega) (by omega) (by omega);rw[s4]at J;have U:itL (i:Nat) 0 (-1) 0 (QS p.A i) f.body=itsOf p i f:=rfl;rw[U,<-hp]at J;have E:b.s.p=p:=by rw[hp,R]
 have e:=fun x=>YI b x;rw[E]at e;have K:(b.s.p.A.map fun f=>AV.agg f.cells)[i]?=some (.agg f.cells):=by rw[E,x4q,F];rfl
 have L:(b.ways.map fun w=>AV.ip w.cells)[i]?=some (.ip (QQ p i f).cells):=by rw[x4q,hW];rfl
 have hIl:((itsOf p i f).map fun i=>AV.agg i.cells).length=(itsOf p i f).length:=x3a _;have hil:(itsOf p i f).length<=200:=by
  have V:=x6h List.length s4;rw[U,x6c,x5z]at V;omega
 have C:∀k,(M5 p i f b.M ((itsOf p i f).take k)).length<=200*1000:=fun k=>by
  have V:=T8 (p:=p) (i:=i) (f:=f) Y ((itsOf p i f).take k);have h2:((itsOf p i f).take k).length*1000<=200*1000:=x5l _ (by rw[x5z];omega);omega
 repeat' ((first|(refine iM fun _=>?_)|refine x4e rfl ?_|refine iT K ?_|refine cP J ?_)<;>conv=>whnf)
 refine lJ (fun k:Nat=>⟨[(0,.p (.ip b.cells)),(1,.j i),(5,.hd 0 0 (M5 p i f b.M ((itsOf p i f).take k)).length),(6,.p (.ip f.cells)),(27,.p (ZE (itsOf p i f))),(28,.p (.int .i64 ((itsOf p i f).map fun i=>AV.agg i.cells).length)),(29,.j k)],[(0,.own 9 1 ((M5 p i f b.M ((itsOf p i f).take k)).map .str))]⟩) (fun k=>k<=(itsOf p i f).length) (fun k=>(itsOf p i f).length-k) 0 (lM [(0,.own 9 1 [])]) (x4j _) ?_;intro k hk;have hak:=C k;rcases x4f k (itsOf p i f).length with m|m;rotate_left 1
 ·rw[x4b m];conv=>whnf
  repeat' (apply bD<;>intro _<;>first|omega|conv=>whnf)
  all_goals exact x6n _ (x4c _) (OneRow.str rfl)
 have u:=AT (p:=p) (i:=i) (f:=f) (D:=b.M) m;have hb:=UU (QB h).1 F (DY (x4h m));have I:=HR p i f h F (itsOf p i f)[k].s.id (.inr (.inr hb));have Q:q7s p i f b.M (itsOf p i f)[k]=bif (QQ p i f).live.getD (ixI p i f (itsOf p i f)[k].s.id).toNat false then(LW b.M (itsOf p i f)[k].s.id).filter (outB p f)else []:=rfl;have v:((itsOf p i f)[k].s.id-1).toNat<b.M.length:=by omega
 have O:(b.M.map eStrs)[((itsOf p i f)[k].s.id-1).toNat]?=some (eStrs (LW b.M (itsOf p i f)[k].s.id)):=by
  unfold LW;rw[x4q,x3i,x3e v];rfl
 have hDl:(LW b.M (itsOf p i f)[k].s.id).length<=1000:=by
  unfold LW;rw[x3i,x3e v];exact Y _ (x4h v)
 generalize(QQ p i f).live.getD (ixI p i f (itsOf p i f)[k].s.id).toNat false=lv at*
 rw[Q]at u;generalize LW b.M (itsOf p i f)[k].s.id=D at*
 generalize M5 p i f b.M ((itsOf p i f).take k)=acc at*
 have hDm:(D.map AV.str).length=D.length:=x3a _;cases lv;all_goals
  conv=>whnf
  repeat' ((first|(refine gX ?_;intros)|refine dA ?_|refine iT L ?_|refine cP I ?_|refine iT O ?_|((first|apply bD|apply bN)<;>intro _<;>try omega))<;>conv=>whnf)
 all_goals first
  |contradiction
  |exact⟨k+1,m,by omega,Le.of_eq (by rw[u,x5q,x5m];rfl)⟩
  |skip
 all_goals
  rw[x4s]at u;refine lI (fun x:Nat×List Str=>⟨[(0,.p (.ip b.cells)),(1,.j i),(5,.hd 0 0 x.2.length),(6,.p (.ip f.cells)),(27,.p (ZE (itsOf p i f))),(28,.p (.int .i64 ((itsOf p i f).map fun i=>AV.agg i.cells).length)),(29,.j k),(54,.p (eStrs D)),(55,.p (.int .i64 (D.map AV.str).length)),(56,.j x.1)],[(0,.own 9 1 (x.2.map .str))]⟩) (fun x=>x.1<=D.length/\x.2=acc++(D.take x.1).filter (outB p f)/\x.2.length<=acc.length+x.1) (fun x=>D.length-x.1) (0,acc) ⟨x4j _,by simp,by simp⟩ ?_;rintro⟨q,o⟩ ⟨h4,z,h6⟩;simp only at h4 z h6⊢;rcases x4f q D.length with a|a
  ·have y:=x4k a;have G:=e D[q];have g:=VG f.B ⟨D[q],true⟩;have t:outB p f D[q]=(comB p D[q]||decide ((⟨D[q],true⟩:Param)∈f.B)):=rfl;generalize hdc:decide ((⟨D[q],true⟩:Param)∈f.B)=dc at g t;conv=>whnf
   repeat' ((first|(refine gX ?_;intros)|refine cP G ?_|refine cP g ?_ (ha:=.cons (Sub.refl _) (.cons (Sub.agg (.cons (Sub.refl _) (.cons (Sub.tt rfl) .nil))) .nil))|refine WK (by simp) (by rw[x3a];omega) ?_|((first|apply bD|apply bB)<;>intro _<;>try omega))<;>conv=>whnf)
   all_goals first
    | (have c:outB p f D[q]=true:=by rw[t,show comB p D[q]=true by assumption];rfl
       exact⟨(q+1,o++[D[q]]),⟨a,by simp only;rw[y,x6y,x7y c,z,x4r];rfl,by simp;omega⟩,by simp only;omega,Le.of_eq (by simp only[x3o,x4d];rfl)⟩)
    | (have c:outB p f D[q]=true:=by rw[t,show dc=true by assumption,Bool.or_true]
       exact⟨(q+1,o++[D[q]]),⟨a,by simp only;rw[y,x6y,x7y c,z,x4r];rfl,by simp;omega⟩,by simp only;omega,Le.of_eq (by simp only[x3o,x4d];rfl)⟩)
    | (have c:outB p f D[q]=false:=by rw[t,show comB p D[q]=false by assumption,show dc=false by assumption];rfl
       exact nX (q+1,o) ⟨a,by simp only;rw[y,x6y,x7b (by rw[c];decide),z];simp,by simp only;omega⟩)
  ·rw[x4b a,<-u]at z;subst z;conv=>whnf
   repeat' ((first|refine wI ?_|(apply bD<;>intro _<;>try omega))<;>conv=>whnf)
   all_goals exact nX (k+1) m
theorem AK(x:X):SpecH prog 163 ([AV.agg x.cells].map .p) [] (OneRow (Jg (XL x)) (XL x=[])):=by
 refine sK Zq func163 ?_;conv=>whnf
 repeat' ((first|refine cP (BX _) ?_|(apply bN<;>intro _))<;>conv=>whnf)
 ·refine CallK.nil 5 9 1 rfl (.cons rfl (.row .nil)) ?_;refine cJ [(2000,5)] 0 (J3 20 (by omega) x (by assumption) [] (by simp)) ?_;rintro l' H' ⟨rfl,rfl⟩;conv=>whnf
  have e:XL x=Ba x []:=by
   unfold XL;rw[show Ij x=true by assumption];rfl
  rw[e];exact x6n _ (x4c _) (NQ rfl)
 ·have e:XL x=[]:=by
   unfold XL;rw[show Ij x=false by assumption];rfl
  exact x6n _ (x4c _) (.inl ⟨rfl,rfl,e⟩)
def usA(a:Arg):List Str:=(if a.ref=true then [a.name]else [])++XL a.x
def inAt(b:Book)(t:S):List Str:=b.ins.getD (caI b.s.p t).toNat []
def Cw(t:S):List Str:=XL t.x++(if t.kind=2 then [JE]else [])
def Qf(b:Book)(t:S):List Str:=if t.kind=4 then Cw t++t.args.flatMap usA++inAt b t else Cw t
theorem I0(a:Arg):(usA a).length<=1048577:=by
 have:=VE a.x;unfold usA;rw[x3o];split<;>simp<;>omega
theorem TV(t:S):(Cw t).length<=1048577:=by
 have:=VE t.x;unfold Cw;rw[x3o];split<;>simp<;>omega
def C8(t:S)(j:Nat):List Str:=Cw t++(t.args.take j).flatMap usA
theorem Ir(t:S)(ha:t.args.length<=21000):(C8 t j).length<=23000000000:=by
 have h:=TV t;have i:=XP I0 (t.args.take j);have l:(t.args.take j).length*1048577<=21000*1048577:=x5l _ (by simp;omega);unfold C8;simp only[x3o];omega
def Cl{t:S}(h:j<t.args.length):C8 t (j+1)=C8 t j++usA t.args[j]:=by
 unfold C8;rw[x4k h,x6m,x4r];simp
theorem OneRow.es{L:List Str}{es:List AV}{n:Nat}{nil:Prop}(i:es=L.map .str)(h:n=L.length):OneRow (Jg L) nil (.hd 0 0 n) [(0,.own 9 1 es)]:=by
 subst i;exact UE h
structure UseOk(b:Book)(t:S):Prop where
 i0:0<=caI b.s.p t
 ii:(caI b.s.p t).toNat<b.ins.length
 al:t.args.length<=21000
 len:(inAt b t).length<=1000000
theorem Ja(b:Book)(t:S)(B:t.kind=4->UseOk b t):SpecH prog 108 [.p (.ip b.cells),.p (.agg t.cells)] [] (fun r H=>OneRow (Jg (Qf b t)) (Qf b t=[]) r H):=by
 refine sK W2 func108 ?_;conv=>whnf
 have E:=AK t.x;have d:=ZI b t;have D:idxF (fun f=>f.name==t.C) b.s.p.A=caI b.s.p t:=rfl;rw[D]at d;have K:=VE t.x;conv=>whnf
 refine VL 0 rfl E (.cons (.p (Sub.refl _)) .nil) (fun l=>?_) (fun q e sz es F=>?_);rotate_left;obtain⟨rfl,rfl,rfl⟩:=F
 rotate_right
 all_goals
  conv=>whnf
  repeat' ((first|(refine gX ?_;intros)|refine WK (es:=[]) rfl (by simp) ?_|refine pS ?_|((first|apply bD|apply bE)<;>intro _<;>try omega))<;>conv=>whnf)
 ·have e:Qf b t=[JE]:=by unfold Qf Cw;rw[if_neg (by assumption),if_pos (by assumption),l];rfl
  rw[e];exact x6n _ (x4c _) (UE (L:=[JE]) rfl)
 rotate_left
 ·have e:Qf b t=[]:=by unfold Qf Cw;rw[if_neg (by assumption),if_neg (by assumption),l];rfl
  exact x6n _ (x4c _) (.inl ⟨rfl,rfl,e⟩)
 ·have e:Qf b t=XL t.x++[JE]:=by unfold Qf Cw;rw[if_neg (by assumption),if_pos (by assumption)]
  rw[e];exact x6n _ (x4c _) (OneRow.es (by rw[x4d];rfl) (by simp))
 rotate_left
 ·have e:Qf b t=XL t.x:=by unfold Qf Cw;rw[if_neg (by assumption),if_neg (by assumption),x5m]
  rw[e];exact x6n _ (x4c _) (OneRow.es rfl (by simp))
 all_goals
  have u:t.kind=4:=by assumption
  have w:=B u;have c:C8 t 0=XL t.x:=by unfold C8 Cw;rw[if_neg (by omega),List.take_zero,List.flatMap_nil,x5m,x5m]
  have O:(t.args.map fun a=>AV.agg a.cells).length=t.args.length:=x3a _;have G:(b.ins.map eStrs)[(caI b.s.p t).toNat]?=some (eStrs (inAt b t)):=by
   unfold inAt;rw[x4q,x3i,x3e w.ii];rfl
  have hi0:=w.i0;have I:=w.len;have y:=w.al;refine LoopK.inv XM (fun j:Nat=>⟨[(0,.p (.ip b.cells)),(3,.p (.ip t.cells)),(5,.hd 0 0 (C8 t j).length),(22,.p (.sl (t.args.map fun a=>.agg a.cells))),(23,.p (.int .i64 (t.args.map fun a=>AV.agg a.cells).length)),(24,.j j)],[(0,.own 9 1 ((C8 t j).map .str))]⟩) (fun j=>j<=t.args.length) (fun j=>t.args.length-j) 0 ?_ (x4j _) ?_
  ·first
    | (rw[c,l]
       exact lM [(0,.own 9 1 [])])
    | (rw[c]
       exact Le.of_eq (by rw[x3a];rfl))
  intro j M;have g:=Ir t (j:=j) y;have m:t.args.length<=j->Qf b t=C8 t j++inAt b t:=fun h=>by
   unfold Qf C8;rw[if_pos u,x4b h]
  have v:=fun h=>Cl (t:=t) (j:=j) h;generalize C8 t j=acc at*
  rcases x4f j t.args.length with i|i
  ·have J:=VE t.args[j].x;conv=>whnf
   repeat' ((first|refine cP (PQ _) ?_|(refine gX ?_;intros)|refine FJ _ (by simp) (by simp;omega) ?_|refine pS ?_|((first|apply bD|apply bB)<;>intro _<;>try omega))<;>conv=>whnf)
   all_goals
    refine⟨j+1,i,by omega,Le.of_eq ?_⟩;first
     | (have z:usA t.args[j]=[t.args[j].name]++XL t.args[j].x:=by rw[usA,if_pos (by assumption)]
        rw[v i,z];simp only[x3o,x4d,x3a,<-x4r,<-x8j];rfl)
     | (have z:usA t.args[j]=XL t.args[j].x:=by rw[usA,if_neg (by rw[show t.args[j].ref=false by assumption];decide)];rfl
        rw[v i,z];simp only[x3o,x4d,x3a];rfl)
  ·rw[m i];conv=>whnf
   repeat' ((first|refine dA ?_|refine aD ?_|refine cP d ?_|refine iT G ?_|refine FJ _ (by simp) (by simp;omega) ?_|(apply bD<;>intro _<;>try omega))<;>conv=>whnf)
   all_goals exact x6n _ (x4c _) (OneRow.es (by rw[x4d]) (by simp))
def KC(w:Way)(f:Pr):List (Int×Int):=(LX w f).map (ixP w.p w.j f w.n)
theorem R6(w:Way)(f:Pr)(n:Nat)(h:WayT w f n)(E:∀t∈KC w f,(0<=t.1/\t.1<n)/\0<=t.2/\t.2<n)(l:(LX w f).length<=1000000):aP 164 [.ip w.cells] (eMat (VQ n (KC w f))):=by
 refine sC Hu func164 ?_;conv=>whnf
 have G:=h.hw;have D:=h.hn;have C:=h.hn2;have A:=Ze w f n h;have e:=WC w f h.hj h.hc (by omega) (LX w f) l;have F:(avP (KC w f)).length=(KC w f).length:=by unfold avP;rw[x3a]
 have g:(KC w f).length<=1000000:=by unfold KC;rw[x3a];exact l
 have b:(LX w f).map (ixP w.p w.j f w.n)=KC w f:=rfl;rw[b]at e;repeat' ((first|(refine gX ?_;intros)|refine x8a n (by omega) (by show 24*_<=140737488355328;omega) (by unfold maxLen;omega) ?_|refine cP A ?_|refine cP e ?_)<;>conv=>whnf)
 refine lJ (fun j:Nat=>⟨[(3,.hd 0 0 n),(14,.p (.sl (avP (KC w f)))),(15,.p (.int .i64 (avP (KC w f)).length)),(16,.j j)],[(0,.ext (.mat 56 3 1 (avI (VQ n ((KC w f).take j))) []))]⟩) (fun j=>j<=(KC w f).length) (fun j=>(KC w f).length-j) 0 (by
   refine Le.trans (Pu n rfl) ?_;exact lE (hH:=.cons rfl (.of_eq (by simp[avI,VQ])) .nil)) (x4j _) ?_
 intro j M;rcases x4f j (KC w f).length with v|v
 ·have r:(avP (KC w f))[j]?=some (.agg [.int .i64 (KC w f)[j].1,.int .i64 (KC w f)[j].2]):=by simp[avP,v]
  obtain⟨⟨I,J⟩,K,L⟩:=E _ (x4h v);have u:VQ n ((KC w f).take (j+1))=nxE (VQ n ((KC w f).take j)) (KC w f)[j]:=by
   unfold VQ;rw[x4k v,x7s];rfl
  have d:=DD n ((KC w f).take j);have i:=LA n ((KC w f).take j) (KC w f)[j].1.toNat;generalize(KC w f)[j]=t at r I J K L u i;generalize VQ n ((KC w f).take j)=rows at u d i⊢;obtain⟨a,ha⟩ : ∃a:Nat,t.1=a:=⟨t.1.toNat,by omega⟩;have q:a<rows.length:=by omega
  have m:(avI rows)[a]?=some (rows[a].map (.int .i64)):=by unfold avI;rw[x4q,x3e q];rfl
  have y:(avI rows).set a (rows[a].map (.int .i64)++[.int .i64 t.2])=avI (nxE rows t):=by
   unfold nxE avI;rw[ha,x5u,x3i,x3e q,x5b,x5d,x4d];rfl
  have B:rows[a].length<=1000000:=by
   rw[ha,x5u,x3i,x3e q,x5b,x5z]at i;omega
  rw[ha]at r;conv=>whnf
  repeat' ((first|refine x4e rfl ?_|refine aD ?_|refine wI ?_|refine DrawK.of XM mixed (.cons 0 false (.cons 1 false (.cons 2 false (.cons 3 false (.cons 4 false (.cons 5 false (.cons 6 false (.cons 8 false (.cons 9 false (.alo 7 (.cons 10 true (.cons 11 true (.cons 12 true (.cons 13 true .nil)))))))))))))) (by kernel_rfl) ?_|refine iT r ?_|refine x6b 0 rfl (by decide) ?_|refine x6b 1 rfl (by decide) ?_|refine iO a ?_|refine x9q a _ (by omega) m (by simp) ?_|refine x9p (fun x H=>by rcases x4w.1 H with rfl;rfl) rfl ?_|refine OpK.focus XM 27 0 a 2 rfl rfl m (by simp) rfl rfl ?_|refine MQ rfl (by rw[x3a];omega) ?_|(refine ZA XM rfl rfl rfl rfl rfl rfl rfl rfl rfl (by decide) a [] (by omega) (by unfold avI;rw[x3a];omega) (by simp) ⟨by simp,by simp,by simp⟩ ?_)|(apply bD<;>intro _<;>try omega))<;>conv=>whnf)
  all_goals exact⟨j+1,v,by omega,Le.of_eq (by rw[u,<-y];rfl)⟩
 ·have c:(KC w f).take j=KC w f:=x4b v;rw[c];have z:=DD n (KC w f);conv=>whnf
  repeat' (apply bD<;>intro _<;>first|omega|conv=>whnf)
  exact⟨_,.mat rfl (by unfold avI;rw[x3a,z]),rfl⟩
section
variable {p:Pg}{j:Nat}{f:Pr}
def dR(p:Pg)(j:Nat)(f:Pr):Int->Int->Prop:=stR (LX (QQ p j f) f)
def q6s(h:QL p=true)(m:p.A[j]?=some f){a b:Int}:dR p j f a b↔wR p j f a b\/∃l∈trapsW (QQ p j f) f,∃t∈flL f.body,t.id∈l/\t.kind=10/\a=t.id/\b = -1:=by
 constructor
 .rintro ⟨s,v,rfl,rfl⟩;rcases x4g.1 ((GB (Hs h m)).2.1 s v)with q|q
  .obtain ⟨l,u,t,w,i,r,rfl⟩:=(PZ h m).1 q;exact .inr ⟨l,u,t,w,i,r,rfl,rfl⟩
  .exact .inl ⟨s,q,rfl,rfl⟩
 .rintro (⟨s,v,rfl,rfl⟩|⟨l,u,t,w,i,r,rfl,rfl⟩)
  .exact CY h m (x4g.2 (.inr v))
  .exact CY h m (s:=⟨t.id,-1,3⟩) (x4g.2 (.inl ((PZ h m).2 ⟨l,u,t,w,i,r,rfl⟩)))
def q9u(h:QL p=true)(i:p.A[j]?=some f){a b:Int}(q:dR p j f a b):plP p j f a/\plP p j f b:=by
 have m:q1m p j f a b:=by
  rcases(q6s h i).1 q with l|l
  .exact (Cn h i).2 (.inl l)
  .exact (Cn h i).2 (.inr (.inr (.inl l)))
 exact⟨(Hf h i m).1,(Hf h i m).2.1⟩
def HF(h:QL p=true)(m:p.A[j]?=some f):∀t∈KC (QQ p j f) f,(0<=t.1/\t.1<(QJ f.body+2:Nat))/\0<=t.2/\t.2<(QJ f.body+2:Nat):=fun t r=>by
 obtain⟨s,q,rfl⟩:=x4y.1 r;obtain⟨i,l⟩:=q9u h m ⟨s,q,rfl,rfl⟩;exact⟨WU i,WU l⟩
end


section
variable {p:Pg}{j:Nat}{f:Pr}
end
theorem Ci{p:Pg}(u:(QO p).1=0):(UT p).1=0 ↔ ∀t∈VH p,t.kind=4->FC p t=true:=by
 unfold UT;rw[if_neg (by omega)];cases l:(VH p).find? fun t=>decide (t.kind=4) && !FC p t with
 | some t=>
   have m:=x8h l;have i:=x9j l;simp only[x4n,x5k,x7w]at i;refine⟨fun h=>by simp at h,fun h=>?_⟩;have:=h t m i.1;rw[i.2]at this;cases this
 | none=>
   refine⟨fun _ t r q=>?_,fun _=>rfl⟩;have:=x9b.1 l t r;simp only[x4n,x5k,x7w,not_and]at this;simpa using this q
theorem Cs{p:Pg}(ha:(UT p).1=0):(FN p).1=0 ↔ ∀t∈VH p,t.kind=4->ZL t.name (KS p t.C) t.args []=true:=by
 unfold FN;rw[if_neg (by omega)];cases l:(VH p).find? fun t=>decide (t.kind=4) && !ZL t.name (KS p t.C) t.args []with
 | some t=>
   have m:=x8h l;have i:=x9j l;simp only[x4n,x5k,x7w]at i;refine⟨fun h=>by simp at h,fun h=>?_⟩;have:=h t m i.1;rw[i.2]at this;cases this
 | none=>
   refine⟨fun _ t r q=>?_,fun _=>rfl⟩;have:=x9b.1 l t r;simp only[x4n,x5k,x7w,not_and]at this;simpa using this q
def pureL:LV->LV
 |.p a=>.p a
 |_=>.p .any
def SU:List (Nat×LV)->List (Nat×LV)
 |[]=>[]
 |(j,l)::r=>(j,pureL l)::SU r
theorem N3:∀(sl:List (Nat×LV))(i:Nat),getS (SU sl) i=pureL (getS sl i)
 |[],i=>rfl
 | (j,l)::r,i=>by
   rw[SU,getS,getS];cases j==i with
   |true=>rfl
   |false=>exact N3 r i
def KI{P:Program}{N:Nat}{g:FuncId}{args:List LV}{r:Option Nat}{s:St}{K:St->Prop}{avs:List AV}{R:AV->Prop}(L:SpecP P g avs R)(ha:FrzL s.H args avs)(h:∀c,R c->setD N (SU s.sl) r (.p c) fun sl=>K ⟨sl,[]⟩):CallK P N g args r s K:=by
 refine⟨fun σ β a w C m hn hv=>⟨L.go m,?_⟩⟩;obtain⟨y,t⟩:=ha.get;obtain⟨τ,J,O,Q,U⟩:=LG C.heap;refine(L.ok τ w m (hn.trans y) (fun j c G=>?_) O).mono fun e w' ⟨c,u,σ',he,Y,A,v,hl,q,z⟩=>?_
 .obtain ⟨l,D,B⟩:=t j c G;exact U l _ c (hv j l D) B
 .have I:Rel N σ' β ⟨SU s.sl,[]⟩ a w':=⟨C.size,C.defers,fun i=>by
   show RepL σ' β (getS (SU s.sl) i) _;rw[N3];have:=C.E i;generalize getS s.sl i=l at this⊢;cases l with
   |p x=>exact this.mono (Mem.le_trans J v)
   |_=>exact .p (.any _),⟨hl,fun k c h=>(by cases h),z1w,fun k h=>(by cases h),fun k h=>(by cases h)⟩⟩
  obtain⟨sl,V,d⟩:=I.setD (.p A) (h c Y);refine⟨u,σ',β,_,he,V,d,Mem.le_trans J v,⟨q.os,q.tape,q.output,q.drawn,q.size,fun b Z _=>q.block b Z id⟩,fun b M D=>?_,fun b ⟨j,G,_⟩=>(by cases G),fun _ _ _=>rfl⟩;by_cases B:τ b=none
  .exact .inr (z b B D)
  .rcases Q b B with F|F
   .exact absurd M F
   .exact .inl F
section
variable {p:Pg}{j:Nat}{f:Pr}{n:Str}
end
section
variable {p:Pg}{j:Nat}{f:Pr}
end
end Go.Ab
