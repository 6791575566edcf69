/- The library's contracts at this seat's program, in plain words (printed by the kit's lay-plain.mjs). Conditions: none. -/
import Derived.Test.YtgpjfppgphaobaaGreatProJ17
set_option linter.all false
set_option maxRecDepth 100000
set_option maxHeartbeats 16000000
namespace Go.Proofs
open Go.Shelf Tryz
def Tryz.laysG_ren:Go.Shelf.Ren:=⟨fun|6=>132|15=>150|14=>180|28=>200|29=>201|20=>233|21=>234|22=>235|23=>236|24=>237|25=>238|26=>239|27=>240|46=>264|47=>245|48=>246|49=>265|50=>266|57=>284|n=>n,fun|22=>138|24=>141|25=>198|3=>3|39=>210|0=>0|53=>249|55=>251|4=>4|46=>242|45=>241|50=>90|5=>5|9=>9|66=>281|70=>285|76=>303|77=>304|n=>n,fun|n=>n⟩
theorem kT17{α:Type}{x:Option α}{a b:α}(h:x=some a)(e:a=b:=by kernel_rfl):x=some b:=e▸h
def CY:Go.Proofs.SlLaysF0.n6 Tryz.prog Tryz.laysG_ren:=⟨by kernel_rfl,⟨f132.name,by decide,kT17 func132⟩,⟨f180.name,by decide,kT17 func180⟩,kT17 func150,⟨f233.name,by decide,kT17 func233⟩,⟨f234.name,by decide,kT17 func234⟩,⟨f235.name,by decide,kT17 func235⟩,⟨f236.name,by decide,kT17 func236⟩,⟨f237.name,by decide,kT17 func237⟩,⟨f238.name,by decide,kT17 func238⟩,⟨f239.name,by decide,kT17 func239⟩,⟨f240.name,by decide,kT17 func240⟩,kT17 func200,kT17 func201,⟨f264.name,by decide,kT17 func264⟩,kT17 func245,kT17 func246,⟨f265.name,by decide,kT17 func265⟩,⟨f266.name,by decide,kT17 func266⟩,⟨f284.name,by decide,kT17 func284⟩,underlying0,isAgg0,sizeOf0,zeroValue0,underlying3,isAgg3,sizeOf3,zeroValue3,underlying4,isAgg4,sizeOf4,zeroValue4,underlying5,isAgg5,sizeOf5,zeroValue5,underlying9,isAgg9,sizeOf9,zeroValue9,underlying138,isAgg138,sizeOf138,zeroValue138,underlying198,isAgg198,sizeOf198,zeroValue198,underlying210,isAgg210,sizeOf210,zeroValue210,underlying241,isAgg241,sizeOf241,zeroValue241,underlying242,isAgg242,sizeOf242,zeroValue242,underlying90,isAgg90,sizeOf90,zeroValue90,underlying249,isAgg249,sizeOf249,zeroValue249,underlying251,isAgg251,sizeOf251,zeroValue251,underlying281,isAgg281,sizeOf281,zeroValue281,underlying285,isAgg285,sizeOf285,zeroValue285,underlying303,isAgg303,sizeOf303,zeroValue303,underlying304,isAgg304,sizeOf304,zeroValue304⟩
end Go.Proofs
namespace Go.Ab
open Go.Proofs.Tryz
open Go.Proofs Go.Sort Go.RowKit Go.Lib
variable {a:Int}{f:Pr}{fm:List (List Bool)}{j:Nat}{nx:List (List Int)}
structure Fl where
 src:Int
 dst:Int
 var:Str
deriving DecidableEq
def Fl.cells(f:Fl):List AV:=[.int .i64 f.src,.int .i64 f.dst,.str f.var]
def flC(a b:Fl):Int:=orI [cmpI (XG a.src) (XG b.src),cmpI (XG a.dst) (XG b.dst),cmpT a.var b.var]
theorem VC(a b:Str):aP 135 [.str a,.str b] (.int .i64 (cmpT a b)):=by
 refine sC DJ func135 ?_;conv=>whnf
 repeat' ((first|refine cP (YV a) ?_|refine cP (YV b) ?_|((first|apply bN|apply bB)<;>intro _<;>try omega))<;>conv=>whnf)
 all_goals first
  |contradiction
  | (have i:Op.bytesLess a b=true:=by assumption
     exact RetK.int (by unfold cmpT;rw[if_pos i]))
  | (have i:Op.bytesLess a b=false:=by assumption
     have l:(Op.bytesLess a b||a==b)=true:=by assumption
     have m:a=b:=by rw[i]at l;simpa using l
     exact RetK.int ((cmpT_k.zero a b).2 m).symm)
  | (have i:Op.bytesLess a b=false:=by assumption
     have l:(Op.bytesLess a b||a==b)=false:=by assumption
     have m:a≠b:=by
      rw[i]at l;rintro rfl;simp at l
     have n:Op.bytesLess b a=true:=by
      rcases ltT.total m with h|h
      ·exact absurd h (by unfold ltT;rw[i];decide)
      ·exact h
     exact RetK.int (by unfold cmpT;rw[if_neg (by rw[i];decide),if_pos n]))
def W0(a b:Fl):aP 133 [.agg a.cells,.agg b.cells] (.int .i64 (flC a b)):=by
 refine sC NA func133 ?_;conv=>whnf
 have h:=VC a.var b.var;repeat' ((first|refine cP (M7 _) ?_|refine cP (VM _ _) ?_|refine cP (FZ [cmpI (XG a.src) (XG b.src),cmpI (XG a.dst) (XG b.dst),cmpT a.var b.var]) ?_|refine dA ?_|refine x9g rfl ?_|refine aD ?_|refine BsK.pureL rfl rfl ?_|refine cP h ?_)<;>conv=>whnf)
 all_goals first
  |exact RetK.p rfl
def ltF(a b:Fl):Prop:=XG a.src<XG b.src\/XG a.src=XG b.src/\(XG a.dst<XG b.dst\/XG a.dst=XG b.dst/\ltT a.var b.var)
def ND(a b:Fl):flC a b<0↔ltF a b:=by
 unfold flC ltF;rw[q9q,Qp,Qp,FX,KX,KX]
def flK(s:Fl):Int×Int×Str:=(XG s.src,XG s.dst,s.var)
def I4(a b:Fl):flC a b=(fun p q:Int×Int×Str=>if cmpI p.1 q.1=0 then(fun p q:Int×Str=>if cmpI p.1 q.1=0 then cmpT p.2 q.2 else cmpI p.1 q.1) p.2 q.2 else cmpI p.1 q.1) (flK a) (flK b):=by
 unfold flC;rw[FH,FH,P4];rfl
theorem ltF.irr(a:Fl):¬ltF a a:=fun h=>by
 rw[<-ND,I4]at h;exact absurd (((cmpI_k.lex (cmpI_k.lex cmpT_k)).zero _ _).2 rfl) (Int.ne_of_lt h)
theorem ltF.trans(a b c:Fl)(i:ltF a b)(l:ltF b c):ltF a c:=by
 rw[<-ND,I4]at*
 exact(cmpI_k.lex (cmpI_k.lex cmpT_k)).tr _ _ _ i l
theorem ltF.neg{x y z:Fl}(i:¬ltF x y)(l:¬ltF y z):¬ltF x z:=by
 rw[<-ND,I4]at*
 exact(cmpI_k.lex (cmpI_k.lex cmpT_k)).ntr i l
def okFl(s:Fl):Prop:=s.src≠9223372036854775807/\s.dst≠9223372036854775807/\s.var.length<=maxLen
instance:Inhabited {s:Fl // okFl s}:=⟨⟨⟨0,0,[]⟩,by decide,by decide,x8m _⟩⟩
theorem ltF.total{a b:Fl}(ha:okFl a)(m:okFl b)(i:¬ltF a b)(l:¬ltF b a):a=b:=by
 rw[<-ND,I4]at i l;have e:=((cmpI_k.lex (cmpI_k.lex cmpT_k)).ge i).resolve_right l;obtain⟨q,r,v⟩:=a;obtain⟨t,u,w⟩:=b;simp only[flK,Prod.mk.injEq]at e;obtain rfl:q=t:=YC ha.1 m.1 e.1;obtain rfl:r=u:=YC ha.2.1 m.2.1 e.2.1;rw[e.2.2]
def E1(s:Fl):AV:=.agg s.cells
def HP(l:List Fl):List Fl:=l.mergeSort fun x y=> !decide (flC y x<0)
def AG{l:List Fl}:(HP l).length=l.length:=by unfold HP;simp
def Kc(l:List Fl)(i:∀s∈l,okFl s)(h:l.length<=1000000000):
  aH 132 [.hd 1000 0 l.length,.p (.fn 133 [])] [(1000,.own 141 3 (l.map fun s=>.agg s.cells))] (.p (.tup [])) [(1000,.own 141 3 ((HP l).map fun s=>.agg s.cells))]:=by
 exact Y6 (p:=okFl) (cells:=Fl.cells) (k:=3) (fun _=>rfl) (fun x m c n=>by
   simp only[Fl.cells,x8r,z3w,or_false]at n;rcases n with rfl|rfl|rfl
   .rfl
   .rfl
   .exact x9e m.2.2) CY (by decide) call132 Tryz.isAgg141 Tryz.sizeOf141 141 flC (fun x y _ _=>W0 x y)
  (by simp only[I4];exact(cmpI_k.lex (cmpI_k.lex cmpT_k)).swo fun s:{s:Fl // okFl s}=>flK s.1) (fun x y m t q r=>ltF.total m t (by rw[<-ND];exact q) (by rw[<-ND];exact r)) l i h
section
variable {P:Program}{T:Tab}{N:Nat}{o:Oper}{s:St}
end
theorem SpecH.post{P:Program}{f:FuncId}{args:List LV}{H:Heap}{R R':LV->Heap->Prop}(h:SpecH P f args H R)(B:∀l H',R l H'->∃m,R' l m/\Le 1 ⟨[(0,l)],H'⟩ ⟨[(0,l)],m⟩):SpecH P f args H R':=by
 refine⟨h.go,fun σ β w x e g A=>(h.ok σ β w x e g A).mono fun F w' D=>?_⟩;obtain⟨l,u,σ',β',H',C,y,v,t,q⟩:=D;obtain⟨m,z,c⟩:=B l H' y;obtain⟨σ2,β2,r,b⟩:=c σ' β' {tmps:=#[u],defers:=[]} w' ⟨rfl,rfl,fun i=>by
  match i with
  |0=>simpa[getS]using v
  |i+1=>exact .p (by simpa[getS]using Rep.any _),t⟩
 exact⟨l,u,σ2,β2,m,C,z,by simpa[getS]using r.E 0,r.heap,q.trans b⟩
structure Vx where
 C:Str
 kind:Int
 id:Int
 slot:Str
deriving DecidableEq
def Vx.cells(v:Vx):List AV:=[.str v.C,.int .i64 v.kind,.int .i64 v.id,.str v.slot]
structure Eg where
 G:Vx
 to:Vx
 kind:Int
deriving DecidableEq
def Eg.cells(e:Eg):List AV:=[.str e.G.C,.int .i64 e.G.kind,.int .i64 e.G.id,.str e.G.slot,.str e.to.C,.int .i64 e.to.kind,.int .i64 e.to.id,.str e.to.slot,.int .i64 e.kind]
def avV(l:List Vx):List AV:=l.map fun v=>.agg v.cells
def avE(l:List Eg):List AV:=l.map fun e=>.agg e.cells
def pcO(b:AV)(i:Int)(f:Pr)(v e:LV):Chunk:=.obj 132 (([AV.ip b.cells,.int .i64 i]++f.cells).map .p++[v,e])
def vH(b:AV)(i:Int)(f:Pr)(vs:List Vx):Heap:=[(1000,pcO b i f (.hd 2000 0 vs.length) (.p .nils)),(2000,.own 27 4 (avV vs))]
def eH(b:AV)(i:Int)(f:Pr)(es:List Eg):Heap:=[(1000,pcO b i f (.p .nils) (.hd 2000 0 es.length)),(2000,.own 43 9 (avE es))]
def vHp(b:AV)(i:Int)(f:Pr)(vs:List Vx):Heap:=[(1000,pcO b i f (.hd 1001 0 vs.length) (.p .nils)),(1001,.own 27 4 (avV vs))]
def nHp(b:AV)(i:Int)(f:Pr):Heap:=[(1000,pcO b i f (.p .nils) (.p .nils))]
def eHp(b:AV)(i:Int)(f:Pr)(es:List Eg):Heap:=[(1000,pcO b i f (.p .nils) (.hd 1001 0 es.length)),(1001,.own 43 9 (avE es))]
theorem Xk(b:AV)(i:Int)(f:Pr)(k id:Int)(s:Str):aH 71 [.ptr 1000 0,.j k,.j id,.p (.str s)] (nHp b i f) (.p (.agg (Vx.cells ⟨f.name,k,id,s⟩))) (nHp b i f):=by
 refine SpecH.post (R:=fun r H=>r=.p (.agg (Vx.cells ⟨f.name,k,id,s⟩))/\H=(0,.obj 27 ((Vx.cells ⟨f.name,k,id,s⟩).map .p))::nHp b i f) ?_ (fun l H' h=>⟨nHp b i f,⟨h.1,rfl⟩,by
  obtain⟨rfl,rfl⟩:=h;exact lE (hnd:=by simp[nHp])⟩)
 refine sK VW func71 ?_;conv=>whnf
 repeat' ((first|(refine gX ?_;intros)|refine dA ?_|((first|apply bD|apply bE|apply bN|apply bB)<;>intro _<;>try omega))<;>conv=>whnf)
 all_goals exact⟨_,x9j _,rfl,rfl⟩
theorem Xg(b:AV)(i:Int)(f:Pr)(vs:List Vx)(k id:Int)(s:Str):aH 71 [.ptr 1000 0,.j k,.j id,.p (.str s)] (vHp b i f vs) (.p (.agg (Vx.cells ⟨f.name,k,id,s⟩))) (vHp b i f vs):=by
 refine SpecH.post (R:=fun r H=>r=.p (.agg (Vx.cells ⟨f.name,k,id,s⟩))/\H=(0,.obj 27 ((Vx.cells ⟨f.name,k,id,s⟩).map .p))::vHp b i f vs) ?_ (fun l H' h=>⟨vHp b i f vs,⟨h.1,rfl⟩,by
  obtain⟨rfl,rfl⟩:=h;exact lE (hnd:=by simp[vHp])⟩)
 refine sK VW func71 ?_;conv=>whnf
 repeat' ((first|(refine gX ?_;intros)|refine dA ?_|((first|apply bD|apply bE|apply bN|apply bB)<;>intro _<;>try omega))<;>conv=>whnf)
 all_goals exact⟨_,x9j _,rfl,rfl⟩
theorem QI(b:AV)(i:Int)(f:Pr)(es:List Eg)(k id:Int)(s:Str):aH 71 [.ptr 1000 0,.j k,.j id,.p (.str s)] (eHp b i f es) (.p (.agg (Vx.cells ⟨f.name,k,id,s⟩))) (eHp b i f es):=by
 refine SpecH.post (R:=fun r H=>r=.p (.agg (Vx.cells ⟨f.name,k,id,s⟩))/\H=(0,.obj 27 ((Vx.cells ⟨f.name,k,id,s⟩).map .p))::eHp b i f es) ?_ (fun l H' h=>⟨eHp b i f es,⟨h.1,rfl⟩,by
  obtain⟨rfl,rfl⟩:=h;exact lE (hnd:=by simp[eHp])⟩)
 refine sK VW func71 ?_;conv=>whnf
 repeat' ((first|(refine gX ?_;intros)|refine dA ?_|((first|apply bD|apply bE|apply bN|apply bB)<;>intro _<;>try omega))<;>conv=>whnf)
 all_goals exact⟨_,x9j _,rfl,rfl⟩
theorem Lk{σ:Mem}{a:Param}{v:Value}(h:Rep σ (.agg a.cells) v):v=.agg #[.string ⟨a.name.toArray⟩,.bool a.ref]:=by
 cases h with
 | agg cs vs u r n q=>
   have t:vs.size=2:=r;have g0:vs[0]?=some (.string ⟨a.name.toArray⟩):=by
    have l:=n 0 (.str a.name) rfl;have m:=q 0 (.str a.name) rfl;generalize u 0=w at l m;cases m;exact l
   have g1:vs[1]?=some (.bool a.ref):=by
    have l:=n 1 (.bool a.ref) rfl;have m:=q 1 (.bool a.ref) rfl;generalize u 1=w at l m;cases m;exact l
   congr 1;apply Array.ext_getElem?;intro i
   match i with
   |0=>exact g0
   |1=>exact g1
   |i+2=>rw[z3p (by omega),z3p (by simp)]
instance:DecidableEq Param:=fun a b=>decidable_of_iff (a.name=b.name/\a.ref=b.ref) (by cases a;cases b;simp)
theorem ValO.B{C:Bool}{s:St}{o:Oper}{K:LV->Prop}{x y:Operand}{u:TypeId}(l:o.op=.binOp .eql 76 x y u){a b:Param}(E:QP s.sl x=.p (.agg a.cells))(F:QP s.sl y=.p (.agg b.cells))(c:K (.p (.bool (decide (a=b))))):ValO prog C s o K:=by
 refine⟨fun σ β q w r _=>⟨_,.bool (decide (a=b)),c,.p (.bool _),fun w' _ _=>?_⟩⟩;have v:q.eval x=.agg #[.string ⟨a.name.toArray⟩,.bool a.ref]:=by
  have:=QX r x;rw[E]at this;cases this with
  |p h=>exact Lk h
 have z:q.eval y=.agg #[.string ⟨b.name.toArray⟩,.bool b.ref]:=by
  have:=QX r y;rw[F]at this;cases this with
  |p h=>exact Lk h
 have D:prog.underlying 76=some (.struct (prog.fieldsOf 76)):=by kernel_rfl
 have m:prog.underlying 9=some .string:=by kernel_rfl
 have i:prog.underlying 4=some .bool:=by kernel_rfl
 have A:(prog.fieldsOf 76).toList=(match ty76.desc with |.struct fs=>fs.toList|_=>[]):=by kernel_rfl
 have g:(Op.equalIn 10000 76 (.agg #[.string ⟨a.name.toArray⟩,.bool a.ref]) (.agg #[.string ⟨b.name.toArray⟩,.bool b.ref])).run prog w'=.ok (decide (a=b)) w':=by
  rw[run_equalIn_struct w' 9999 _ _ _ D (by kernel_rfl),A];simp only[ty76,Op.eqFields];have G:∀(x:ByteArray)(y:Bool),(part 9 #[.string x,.bool y] 0).run prog w'=.ok (.string x) w':=fun x y=>run_part_plain w' (by kernel_rfl) rfl;have H:∀(x:ByteArray)(y:Bool),(part 4 #[.string x,.bool y] 1).run prog w'=.ok (.bool y) w':=fun x y=>run_part_plain w' (by kernel_rfl) rfl;have es:∀x y:ByteArray,(Op.equalIn 9999 9 (.string x) (.string y)).run prog w'=.ok (x.toList==y.toList) w':=fun x y=>run_equalIn_string (P:=prog) w' 9998 9 x y m;have t:∀x y:Bool,(Op.equalIn 9999 4 (.bool x) (.bool y)).run prog w'=.ok (x==y) w':=fun x y=>run_equalIn_bool (P:=prog) w' 9998 4 x y i;have e:decide (a=b)=(((⟨a.name.toArray⟩:ByteArray).toList==(⟨b.name.toArray⟩:ByteArray).toList)&&(a.ref==b.ref)):=by
   rw[ByteArray.toList_eq,ByteArray.toList_eq,z2t,z1o,x9w,z2k,z2k];cases a;cases b;simp
  simp only[ne_eq,show ¬("Name" = "_") by decide,show ¬("Ref" = "_") by decide,not_false_eq_true,if_true,Sem.run_bind,G,H,Result.andThen_ok,es,t,Sem.run_ite,Sem.run_pure,e];cases((⟨a.name.toArray⟩:ByteArray).toList==(⟨b.name.toArray⟩:ByteArray).toList)<;>cases(a.ref==b.ref)<;>simp
 simp only[execOp,l,v,z,Sem.run_bind,run_eqGuard_agg _ _ _ _ _ _ _ (show prog.eqGuardType prog.depth 76=false by kernel_rfl),Result.andThen_ok,run_eql_struct,g,Sem.run_pure]
theorem UC(l:List Param)(x:Param):SpecP prog 206 [.sl (l.map fun a=>.agg a.cells),.agg x.cells] (fun r=>∃k:Int,r=.int .i64 k/\(0<=k↔x∈l)):=by
 refine sC VT func206 ?_;conv=>whnf
 have t:(l.map fun a=>AV.agg a.cells).length=l.length:=x8g _;repeat' ((refine iM fun _=>?_)<;>conv=>whnf)
 refine lI (fun j:Nat=>⟨[(0,.p (.sl (l.map fun a=>.agg a.cells))),(3,.p (.ip x.cells)),(7,.p (.int .i64 (l.map fun a=>AV.agg a.cells).length)),(8,.j j)],[]⟩) (fun j=>j<=l.length/\x∉l.take j) (fun j=>l.length-j) 0 ⟨x8m _,by simp⟩ ?_;rintro j ⟨u,i⟩;rcases x8a j l.length with h|h
 ·have n:x∈l.take (j+1)↔x∈l.take j\/x=l[j]:=ZK h;conv=>whnf
  repeat' ((first|refine dA ?_|(refine gX ?_;intros)|refine ValO.B (a:=x) (b:=l[j]) rfl rfl rfl ?_|(apply bD<;>intro _<;>try omega))<;>conv=>whnf)
  all_goals first
   | (have m:x=l[j]:=by assumption
      exact⟨_,.p (Sub.refl _),j,rfl,⟨fun _=>by rw[m];exact x8o h,fun _=>by omega⟩⟩)
   | (have m:¬x=l[j]:=by assumption
      exact nX (j+1) ⟨h,fun q=>(n.1 q).elim i m⟩)
 ·rw[x9q h]at i;conv=>whnf
  repeat' (apply bD<;>intro _<;>first|omega|conv=>whnf)
  all_goals exact⟨_,.p (Sub.refl _),-1,rfl,by simp[i]⟩
def VN(l:List Param)(x:Param):aP 162 [.sl (l.map fun a=>.agg a.cells),.agg x.cells] (.bool (decide (x∈l))):=by
 refine sC WT func162 ?_;conv=>whnf
 have h:=UC l x;repeat' ((refine CallK.pure h (.cons (Sub.refl _) (.cons (Sub.refl _) .nil)) ?_;rintro _ ⟨k,rfl,i⟩)<;>conv=>whnf)
 all_goals first
  |exact RetK.bool (by rw[z2t,z1o,z1o];exact i)
def q5j{p:Pg}(h:QL p=true)(b:p.A[j]?=some f){t:S}(q:t∈flL f.body):stmtR p t.id=t:=by
 have G:=(QG h).1;have w:=x9x b;have d:(flatU f).map RI.s=flL f.body:=T4 1 0 false f.body;have e:∃x∈ZR f,x.s=t:=by
  rw[Ut G w];rw[<-d]at q;obtain⟨x,r,m⟩:=x8s.1 q;exact⟨x,r,m⟩
 obtain⟨x,r,m⟩:=e;unfold stmtR Bg;cases l:I1 p t.id with
 | none=>
   exfalso;unfold I1 at l;have i:=List.findSome?_eq_none_iff.1 l f w;unfold I0 at i;rw[Option.map_eq_none_iff,z3h]at i;exact i x r (by simp[m])
 | some y=>
   obtain⟨y,n⟩:=y;unfold I1 at l;obtain⟨g,F,i⟩:=List.exists_of_findSome?_eq_some l;unfold I0 at i;rw[z3m]at i;obtain⟨z,u,B⟩:=i;obtain rfl:z=y:=z0o Prod.fst B;obtain⟨k,c⟩:=z1g.1 F;have C:=q8z h c (z2o u);have D:z.s.id=t.id:=by simpa using z3s u
   have v:=TV h c C;have E:=TV h b q;rw[D,E]at v;exact(z1e v).symm
def q5o{p:Pg}(h:QL p=true)(l:p.A[j]?=some f):∀s∈Yt (QQ p j f) f,okSt s:=fun s i=>by
 unfold Yt at i;rcases x8e.1 i with i|i
 .rcases x8e.1 i with i|i
  .exact Bv h l s i
  .rw [x8l.1 i];exact⟨by decide,by decide⟩
 .obtain ⟨n,m,i⟩:=x9m.1 i;exact SB h l n m s i
theorem x3e{p:Pg}(h:QL p=true)(i:p.A[j]?=some f){m:Item}(q:m∈itsOf p j f):(sheetOf p).l[(m.s.id-1).toNat]?=some m:=by
 have v:=VS (QG h).1 i (BU q);obtain⟨t,n,r⟩:=Xr i (k:=(m.s.id-1).toNat) (by omega) (by omega);have u:=C6 h i (by omega) (by omega) n;rw[n,Ic (QG h).1 i r q (by omega)]
def q3k{p:Pg}(h:QL p=true):∃(k:Nat) (f:Pr),p.A[k]?=some f/\p.A.filter (fun f=>f.name==mainS)=[f]/\f.name=mainS/\f.B=[]:=by
 obtain⟨D,d,_⟩:=QG h;obtain⟨_,n,_⟩:=JL d;unfold VU at n;simp only[z3f,Bool.not_eq_false']at n;obtain⟨_,x,y,t⟩:=n;have hnd:=Cf x;obtain⟨k,v,C,u⟩:=SH y;have z:=z3s u;have w:p.A[k].name=mainS:=by
  have:mainS=p.A[k].name:=by simpa using z
  exact this.symm
 rw [u]at t;have c:p.A[k].B=[]:=z0n (by simpa using t);refine⟨k,p.A[k],x8h v,?_,w,c⟩;have key:∀(l:List Pr),(l.map Pr.name).Nodup->∀f∈l,f.name=mainS->l.filter (fun f=>f.name==mainS)=[f]:=fun l=>by
  induction l with
  |nil=>intro _ f m;cases m
  | cons g r e=>
    intro hnd f m i;rw[x9f,z0h]at hnd;rcases x8r.1 m with rfl|m
    .rw [z1l (by simp[i])];congr 1;rw[List.filter_eq_nil_iff];intro g b q;exact hnd.1 (by rw[i,<-show g.name=mainS by simpa using q];exact z2g b)
    .rw [z2z (by
      intro q;exact hnd.1 (by rw[show g.name=mainS by simpa using q,<-i];exact z2g m))]
     exact e hnd.2 f m i
 exact key p.A hnd _ (x8o v) w
section
variable {p:Pg}{k:Nat}{f:Pr}
end
theorem Fs:∀(l:List Pr){n:Nat}{m:Int},ZQ n l=some m->∀(j:Nat)(f:Pr),l[j]?=some f->∃i,YE 1 ((n+QC l j:Nat):Int) f.body=some i
 |[],_,_,_,j,f,hj=>by simp at hj
 | g::r,n,m,h,j,f,hj=>by
   rw[ZQ]at h;cases w:GN g<;>rw[w]at h
   ·cases h
   simp only[x9y]at h;split at h
   ·rename_i x q;cases j with
    | zero=>
      cases hj;exact⟨x,q⟩
    | succ j=>
      have u:=JM _ _ g.body q;have t:ZQ ((n+QY g.body:Nat):Int) r=some m:=by rw[<-h,u];rfl
      obtain⟨i,v⟩:=Fs r t j f (by simpa using hj);exact⟨i,by rw[<-v,QC];congr 1;omega⟩
   ·cases h
theorem IL{p:Pg}(h:KT p=true)(l:p.A[j]?=some f):∃m,YE 1 ((QC p.A j:Nat):Int) f.body=some m:=by
 unfold KT at h;simp only[x9w]at h;obtain⟨m,q⟩:=Option.isSome_iff_exists.1 h.2;obtain⟨r,i⟩:=Fs p.A (n:=0) q j f l;exact⟨r,by rw[<-i];congr 1;omega⟩
theorem D8:∀(l:List Int)(b:List Bool)(i:Nat),i<b.length->((KN l b).getD i false=true↔b.getD i false=true\/∃a∈l,a.toNat=i)
 |[],b,i,hi=>by simp[KN]
 | a::r,b,i,hi=>by
   have h:=D8 r (b.set a.toNat true) i (by rw[z0m];exact hi);have e:KN (a::r) b=KN r (b.set a.toNat true):=rfl;rw[e,h];simp only[x8r,exists_eq_or_imp];by_cases ha:a.toNat=i
   .simp [ha,hi,x8f,z3i]
   .simp [ha,x8f,z3i]
theorem Bo{p:Pg}(h:QL p=true)(q:p.A[j]?=some f){y:Int}(m:plP p j f y):(QQ p j f).live.getD (ixI p j f y).toNat false=true↔Rch (wR p j f) 0 y:=by
 have l:=KY m;have r:(QQ p j f).live=KN (DZ 0 (WX (QA (QY f.body+2) ((QQ p j f).real.map (ixP p j f (QY f.body+2:Nat)))).1 [0])) (List.replicate (QY f.body+2) false):=rfl;rw[r,D8 _ _ _ (by rw[z0g];omega)];have n:(List.replicate (QY f.body+2) false).getD (ixI p j f y).toNat false=false:=by
  rw[x8f,x9l];split<;>rfl
 rw[n];have t:=AP (F:=(QQ p j f).real) (VE h q) m;unfold wR;rw[<-t];constructor
 ·rintro(i|⟨a,i,u⟩)
  ·cases i
  ·have ha:=P0 _ _ _ i
   rwa[show ixI p j f y=a by omega]
 ·exact fun i=>.inr ⟨_,i,rfl⟩
section
variable {p:Pg}{k:Nat}{f:Pr}
end
theorem FollowP.no{n:Nat}(h:FollowP n nx fm){a b:Nat}(x:b<n)(ha:Avd nx n b a):bitF fm a b=false:=by
 have r:∀c,n<=c->bitF fm c b=false:=fun c y=>by
  unfold bitF;rw[x8f (l:=fm),z0d (by rw[h.inv.len];exact y)];rfl
 have i:n-1≠b->bitF fm (n-1) b=false:=fun w=>by
  unfold bitF;rw[h.inv.last,Fq x,x9o w,x9o (by omega)];rfl
 induction ha with
 |exit z=>exact i (z2x z)
 | @step a t m A _ B=>
   rcases Nat.lt_trichotomy a (n-1)with v|u|e
   ·have q:bitF fm a b=(rowF n nx fm a).getD b false:=by
     unfold bitF;rw[h.fix a v]
    rw[q,Pw x,x9o m];cases g:GR fm (nx.getD a []) b with
    |false=>rfl
    | true=>
      have:=PR.1 g _ A;rw[z0x,B]at this;cases this
   ·subst u;exact i m
   ·exact r a (by omega)
theorem FollowP.iff{n:Nat}(h:FollowP n nx fm){a b:Nat}(ha:a<n)(l:b<n):bitF fm a b=true ↔ ¬Avd nx n b a:=by
 constructor
 .intro i m;rw[h.no l m]at i;cases i
 .intro i;cases q:bitF fm a b with
  |true=>rfl
  |false=>exact absurd (h.inv.min a b ha l q) i
theorem q1f{n:Nat}{f g:List (List Bool)}(w:f.length=n)(x:g.length=n)(m:∀r∈f,r.length=n)(q:∀r∈g,r.length=n)(h:∀a b,a<n->b<n->bitF f a b=bitF g a b):f=g:=by
 refine z5j (by omega) fun a ha i=>?_;have v:=m _ (x8o ha);have e2:=q _ (x8o i);refine z5j (by omega) fun b t u=>?_;have:=h a b (by omega) (by omega);unfold bitF at this;rw[x8f (l:=f),x8f (l:=g),x8h ha,x8h i]at this;simp only[x9i]at this;rw[x8f,x8f,x8h t,x8h u]at this;exact this
theorem FollowP.uniq{n:Nat}{f g:List (List Bool)}(i:FollowP n nx f)(l:FollowP n nx g):f=g:=by
 refine q1f i.inv.len l.inv.len i.inv.rows l.inv.rows fun a b ha m=>?_;rw[z2t,i.iff ha m,l.iff ha m]
noncomputable def x2e(n:Nat)(nx:List (List Int)):List (List Bool):=@Classical.epsilon _ ⟨[]⟩ (FollowP n nx)
theorem FollowP.eq{n:Nat}(h:FollowP n nx fm):fm=x2e n nx:=h.uniq (Classical.epsilon_spec ⟨fm,h⟩)
theorem Mz:∀(l:List (Int×Int))(rows:List (List Int)),(∀t∈l,0<=t.1/\t.1<rows.length)->∀(a:Nat)(x:Int),x∈(l.foldl nxE rows).getD a []↔x∈rows.getD a []\/∃t∈l,t.1=a/\t.2=x
 |[],rows,_,a,x=>by simp
 | t::r,rows,h,a,x=>by
   obtain⟨q,v⟩:=h t x8p;rw[z1n,Mz r (nxE rows t) (fun u n=>by rw[IC];exact h u (x8b _ n))];have e:x∈(nxE rows t).getD a []↔x∈rows.getD a []\/(t.1=a/\t.2=x):=by
    unfold nxE;simp only[x8f,z3i];by_cases m:t.1.toNat=a
    ·subst m;have e0:t.1=(t.1.toNat:Int):=by omega
     rw[if_pos rfl,if_pos (by omega)];simp only[x9i,x8e,x8l];constructor
     ·rintro(i|i)
      ·exact .inl i
      ·exact .inr ⟨e0,i.symm⟩
     ·rintro(i|⟨_,i⟩)
      ·exact .inl i
      ·exact .inr i.symm
    ·rw[if_neg m];constructor
     ·exact .inl
     ·rintro(i|⟨i,_⟩)
      ·exact i
      ·omega
   rw[e];simp only[x8r,exists_eq_or_imp,z5t]
def Kv{n:Nat}{l:List (Int×Int)}(h:∀t∈l,0<=t.1/\t.1<n){a:Nat}{x:Int}:x∈(YQ n l).getD a [] ↔ ∃t∈l,t.1=a/\t.2=x:=by
 unfold YQ;rw[Mz l _ (by simpa using h)];have:(List.replicate n ([]:List Int)).getD a []=[]:=by
  rw[x8f,x9l];split<;>rfl
 rw[this];simp
mutual
theorem q4n:∀(t:S){nest seen m:Int},D3 nest seen t=some m->∀u∈flS t,oneOk u=true
 | .mk id kind Z name pr x has args M V,nest,seen,m,h,u,hu=>by
   obtain⟨h1,_,m1,h3,h4⟩:=PM h;rw[flS]at hu;rcases x8r.1 hu with rfl|hu
   ·exact h1
   ·rcases x8e.1 hu with hu|hu
    ·exact Y2 M h3 u hu
    ·exact Y2 V h4 u hu
theorem Y2:∀(l:List S){nest seen m:Int},YE nest seen l=some m->∀u∈flL l,oneOk u=true
 |[],_,_,_,_,u,hu=>by rw[flL]at hu;cases hu
 | t::r,nest,seen,m,h,u,hu=>by
   obtain⟨_,m1,h1,h2⟩:=HB h;rw[flL]at hu;rcases x8e.1 hu with hu|hu
   ·exact q4n t h1 u hu
   ·exact Y2 r h2 u hu
end
def q1d{p:Pg}(h:QL p=true)(i:p.A[j]?=some f){t:S}(n:t∈flL f.body):OneF t:=by
 obtain⟨m,l⟩:=IL (QG h).1 i;exact KB (Y2 _ l t n)
section
variable {p:Pg}{j:Nat}{f:Pr}
def x2a(p:Pg)(j:Nat)(f:Pr):Int->Int->Prop:=stR (CM (QQ p j f) f)
theorem q7p(h:QL p=true)(n:p.A[j]?=some f):(CM (QQ p j f) f).length<=200000:=by
 obtain⟨_,_,q⟩:=XZ h;obtain⟨_,_,_,v,r⟩:=QU p;obtain⟨_,_,b,_⟩:=r j f n;obtain⟨w,x,_⟩:=HH (q5o h n);have y:=HG (l:=CM (QQ p j f) f) (m:=((QQ p j f).real++(KO (QC p.A j) (QY f.body)).map fun id=>⟨id,-1,3⟩)++[⟨0,-1,2⟩]++(itsOf p j f).flatMap fOf) (SG w) fun s d=>by
  rcases x8e.1 (x s d)with i|i
  ·refine x8e.2 (.inl ?_);rcases x8e.1 i with i|i
   ·refine x8e.2 (.inl ?_);rcases x8e.1 i with i|i
    ·obtain⟨l,G,t,e,z,F,rfl⟩:=(PA h n).1 i;have u:=VS (QG h).1 n e;exact x8e.2 (.inr (x8s.2 ⟨t.id,Sr u.1 u.2,rfl⟩))
    ·exact x8e.2 (.inl i)
   ·exact x8e.2 (.inr i)
  ·exact x8e.2 (.inr i)
 have i:=P9 n q;have C:(KO (QC p.A j) (QY f.body)).length=QY f.body:=by unfold KO;simp
 have D:=ZV (g:=fOf) (c:=1) (itsOf p j f) fun B _=>q7i B;have E:(itsOf p j f).length=QY f.body:=XO _ _ _ _ _ _;simp only[x8d,x8g,x9h]at y;omega
theorem Ef(h:QL p=true)(w:p.A[j]?=some f){b:Int}:x2a p j f a b↔wR p j f a b\/(a=0/\b = -1)\/(∃l∈trapsW (QQ p j f) f,∃t∈flL f.body,t.id∈l/\t.kind=10/\a=t.id/\b = -1)\/∃r∈itsOf p j f,7<=r.s.kind/\a=r.s.id/\b=r.next:=by
 have c:=HH (q5o h w);have i:∀s,s∈Yt (QQ p j f) f↔s∈WW (QQ p j f) f\/s∈(QQ p j f).real\/s=⟨0,-1,2⟩\/s∈(itsOf p j f).flatMap fOf:=fun s=>by
  have e:Yt (QQ p j f) f=WW (QQ p j f) f++(QQ p j f).real++[⟨0,-1,2⟩]++(itsOf p j f).flatMap fOf:=rfl;rw[e];simp only[x8e,x8l,z5t]
 have q:∀s∈Yt (QQ p j f) f,x2a p j f s.src s.dst:=fun s m=>by
  obtain⟨s',n,d,g,_⟩:=c.2.2 s m;exact⟨s',n,d,g⟩
 constructor
 ·rintro⟨s,m,rfl,rfl⟩;rcases(i s).1 (c.2.1 s m)with n|n|n|n
  ·obtain⟨l,y,t,z,u,x,rfl⟩:=(PA h w).1 n;exact .inr (.inr (.inl ⟨l,y,t,z,u,x,rfl,rfl⟩))
  ·exact .inl ⟨s,n,rfl,rfl⟩
  ·rw[n];exact .inr (.inl ⟨rfl,rfl⟩)
  ·obtain⟨r,v,m⟩:=x9m.1 n;unfold fOf at m;split at m
   ·rw[x8l.1 m];exact .inr (.inr (.inr ⟨r,v,by omega,rfl,rfl⟩))
   ·cases m
 ·rintro(⟨s,m,rfl,rfl⟩|⟨rfl,rfl⟩|⟨l,y,t,z,u,x,rfl,rfl⟩|⟨r,v,x,rfl,rfl⟩)
  ·exact q s ((i s).2 (.inr (.inl m)))
  ·exact q ⟨0,-1,2⟩ ((i _).2 (.inr (.inr (.inl rfl))))
  ·exact q ⟨t.id,-1,3⟩ ((i _).2 (.inl ((PA h w).2 ⟨l,y,t,z,u,x,rfl⟩)))
  ·refine q ⟨r.s.id,r.next,2⟩ ((i _).2 (.inr (.inr (.inr (x9m.2 ⟨r,v,?_⟩)))));have B:=(q1d h w (BU v)).hi;unfold fOf;rw[if_pos (by omega)];exact x8l.2 rfl
theorem q7g(h:QL p=true)(n:p.A[j]?=some f){b:Int}(c:x2a p j f a b):plP p j f a/\plP p j f b/\a ≠ -1/\b≠0:=by
 have m:∀t∈flL f.body,plP p j f t.id/\t.id ≠ -1:=fun t q=>by
  have x:=VS (QG h).1 n q;exact⟨.inr (.inr x),by omega⟩
 rcases(Ef h n).1 c with i|⟨rfl,rfl⟩|⟨l,g,t,q,y,z,rfl,rfl⟩|⟨B,r,z,rfl,rfl⟩
 ·obtain⟨v,w⟩:=x2s h n i;refine⟨v,w,?_,fun e=>q3m h n (e▸i)⟩;obtain⟨s,d,rfl,rfl⟩:=i;rcases q4g h n (((Xf h n).2 s).1 d)with u|u
  ·rw[u];show(0:Int) ≠ -1;decide
  ·omega
 ·exact⟨.inl rfl,.inr (.inl rfl),by decide,by decide⟩
 ·exact⟨(m t q).1,.inr (.inl rfl),(m t q).2,by decide⟩
 ·have i:=(Jc r).1;unfold okI at i;refine⟨(m _ (BU r)).1,?_,(m _ (BU r)).2,by omega⟩;rcases i with i|i
  ·exact .inr (.inl i)
  ·exact .inr (.inr i)
def q4j:WL (QQ p j f) f=(CM (QQ p j f) f).map (ixP p j f (QY f.body+2:Nat)):=rfl
def q9w(h:QL p=true)(n:p.A[j]?=some f):∀t∈WL (QQ p j f) f,(0<=t.1/\t.1<(QY f.body+2:Nat))/\0<=t.2/\t.2<(QY f.body+2:Nat):=fun t i=>by
 rw[q4j]at i;obtain⟨s,q,rfl⟩:=x8s.1 i;obtain⟨l,m,_⟩:=q7g h n ⟨s,q,rfl,rfl⟩;exact⟨KY l,KY m⟩
noncomputable def x1z(w:Way)(f:Pr)(n:Nat):List (Int×Int):=(List.range n).flatMap fun(x:Nat)=>((List.range n).filter fun y=>mkM n (x2e n (YQ n (WL w f))) (WL w f) x y).map fun(y:Nat)=>(QB w.p w.j w.n x,QB w.p w.j w.n y)
def q7t{w:Way}{n:Nat}{M:List (List Bool)}(i:FollowP n (YQ n (WL w f)) fm)(h:∀a b,a<n->b<n->bitF M a b=mkM n fm (WL w f) a b):O4 (QB w.p w.j w.n) M n n=x1z w f n:=by
 rw[i.eq]at h;unfold O4 x1z;have l:∀x∈List.range n,((List.range n).filter fun y=>bitF M x y).map (fun(y:Nat)=>(QB w.p w.j w.n x,QB w.p w.j w.n y))=((List.range n).filter fun y=>mkM n (x2e n (YQ n (WL w f))) (WL w f) x y).map fun(y:Nat)=>(QB w.p w.j w.n x,QB w.p w.j w.n y):=fun x m=>by
  rw[z4d fun y q=>h x y (z0t.1 m) (z0t.1 q)]
 rw[List.flatMap_def,List.flatMap_def,z5b l]
def S9(w:Way)(n:Nat):(x1z w f n).length<=n*n:=by
 unfold x1z;have h:=ZV (g:=fun(x:Nat)=>((List.range n).filter fun y=>mkM n (x2e n (YQ n (WL w f))) (WL w f) x y).map fun(y:Nat)=>(QB w.p w.j w.n x,QB w.p w.j w.n y)) (c:=n) (List.range n) fun x _=>by
  rw[x8g];exact x9r (z0i _ _) (by simp)
 rw[z1w]at h;exact h
end
namespace Own
end Own
open Go.Proofs
def rng(a b:Int)(v:Int):Prop:=a<=v/\v<=b
def x6m(l:List Int)(i:Nat):Int:=l.getD i 0
def srt(K:Int->Int)(l:List Int)(a b:Nat):Prop:=∀i k,a<=i->i<k->k<b->K (x6m l k)<=K (x6m l i)
def blk(K:Int->Int)(l:List Int)(bs n:Nat):Prop:=∀q,srt K l (q*bs) (min (q*bs+bs) n)
theorem IA:∀(l:List Pr)(j:Nat),QC l j<=cntP l
 |_,0=>by rw[QC];omega
 |[],j+1=>by rw[QC];omega
 |g::r,j+1=>by rw[QC,cntP];have:=IA r j;omega
section
variable {p:Pg}{j:Nat}{f:Pr}
end
section
variable {p:Pg}{j:Nat}{f:Pr}
end
structure Book where
 s:Sheet
 ways:List Way
 Y:List (List Str)
 za:List (List Str)
 ins:List (List Str)
 zb:List (List Str)
def Book.cells(b:Book):List AV:=[.ip b.s.cells,.sl (b.ways.map fun w=>.ip w.cells),.sl (b.Y.map eStrs),.sl (b.za.map eStrs),.sl (b.ins.map eStrs),.sl (b.zb.map eStrs)]
def HM:Str:=[36,105,110]
def comB(p:Pg)(n:Str):Bool:=(n==HM)||p.F.any fun s=>n==s
theorem JU(b:Book)(n:Str):aP 138 [.ip b.cells,.str n] (.bool (comB b.s.p n)):=by
 refine sC Q3 func138 ?_;conv=>whnf
 repeat' ((first|refine cP (QZ _ _) ?_|(apply bB<;>intro _))<;>conv=>whnf)
 all_goals first
  | (have h:(n==HM)=true:=by assumption
     exact RetK.tt (by unfold comB;rw[h];rfl))
  | (have h:(n==HM)=false:=by assumption
     exact RetK.bool (by unfold comB;rw[h,Bool.false_or]))
theorem FL(p:Pg)(j:Nat)(f:Pr)(h:QL p=true)(r:p.A[j]?=some f)(id:Int)(i:plP p j f id):aP 110 [.ip (QQ p j f).cells,.int .i64 id] (.bool ((QQ p j f).live.getD (ixI p j f id).toNat false)):=by
 refine sC Yv func110 ?_;conv=>whnf
 have hT:=q7x h r;have l:=Z2 (QQ p j f) f hT.hj hT.hc (by have:=hT.hn2;have:=hT.hn;have:=hT.hw;omega) id;have m:KU (loI (QQ p j f).p (QQ p j f).j) (hiI (QQ p j f).p (QQ p j f).j f) (QQ p j f).n id=ixI p j f id:=rfl;rw[m]at l;have u:=KY i;have t:(QQ p j f).live.length=QY f.body+2:=by show(KN _ (List.replicate (QY f.body+2) false)).length=_;rw[PL];simp
 generalize ixI p j f id=ix at*
 have q:((QQ p j f).live.map bv)[ix.toNat]?=some (bv ((QQ p j f).live.getD ix.toNat false)):=by
  rw[x8n,x8f,x8h (by omega)];rfl
 generalize(QQ p j f).live.getD ix.toNat false=v at*
 cases v;all_goals
  repeat' ((first|refine dA ?_|refine cP l ?_|refine iT q ?_)<;>conv=>whnf)
 all_goals first
  |exact RetK.tt rfl
  |exact RetK.ff rfl
theorem Jf(l:List Str)(h:l.length<=1000000000):aH 104 [.hd 1000 0 l.length] [(1000,.own 9 1 (l.map .str))] (.hd 1000 0 (WH l).length) [(1000,.own 9 1 ((WH l).map .str))]:=by
 refine sK Dp func104 ?_;conv=>whnf
 repeat' ((first|(refine cH rH5 0 (VI l h) ?_)|(refine cH rH5 0 (GT (UF l) (by rw[ZF];omega)) ?_ (ha:=(x9d (z3y (by rw[ZF];rfl)) z1y))))<;>conv=>whnf)
 all_goals first
  |exact z1z _ (x9j _) ⟨rfl,rfl⟩
def ZI(b:Book)(t:S):aP 136 [.ip b.cells,.agg t.cells] (.int .i64 (idxF (fun f=>f.name==t.C) b.s.p.A)):=by
 refine sC Q2 func136 ?_;conv=>whnf
 have h:=XI b.s t.C;repeat' ((first|refine dA ?_|refine cP h ?_)<;>conv=>whnf)
 all_goals exact RetK.p rfl
def x3v(O:List Str)(x:Arg×Param):Bool:=x.1.ref&&inS O x.2.name
def Ow(t:S)(f:Pr)(O:List Str)(j:Nat):List Str:=(((t.args.zip f.B).take j).filter (x3v O)).map fun x=>x.1.name
def q7n(p:Pg)(t:S)(f:Pr)(O:List Str):List Str:=(if t.name=[]then []else [t.name])++Ow t f O t.args.length++O.filter (comB p)
theorem C3(t:S)(f:Pr)(O:List Str)(j:Nat):(Ow t f O j).length<=j:=by
 unfold Ow;rw[x8g];exact x9r (z0i _ _) (by rw[x9n];omega)
theorem Ov{t:S}{O:List Str}(l:j<t.args.length)(m:j<f.B.length):Ow t f O (j+1)=Ow t f O j++(if t.args[j].ref=true/\inS O f.B[j].name=true then [t.args[j].name]else []):=by
 have i:j<(t.args.zip f.B).length:=by rw[List.length_zip];omega
 unfold Ow;rw[x8c i,z0b,x8i];congr 1;have e:(t.args.zip f.B)[j]=(t.args[j],f.B[j]):=List.getElem_zip;rw[e];by_cases h:t.args[j].ref=true/\inS O f.B[j].name=true
 ·rw[if_pos h,z1l (by unfold x3v;simp[h])];rfl
 ·rw[if_neg h,z2z (by unfold x3v;simpa using h)];rfl
theorem Uq(b:Book)(t:S)(i:Nat)(f:Pr)(O:List Str)(hi:idxF (fun f=>f.name==t.C) b.s.p.A=i)(Z:b.s.p.A[i]?=some f)(R:b.zb[i]?=some O)(hs:O.Pairwise ltT)(hl:O.length<=1000000)(ha:t.args.length<=f.B.length)(V:t.args.length<=1000000):SpecH prog 161 [.p (.ip b.cells),.p (.agg t.cells)] [] (fun r H=>OneRow (Gz (q7n b.s.p t f O)) False r H):=by
 refine sK Q4 func161 ?_;conv=>whnf
 have J:=ZI b t;rw[hi]at J;have hH:=fun x=>PD O x hs (by omega);have D:=fun x=>JU b x;have y:(b.zb.map eStrs)[i]?=some (eStrs O):=by rw[x8n,R];rfl
 have G:(b.s.p.A.map fun f=>AV.agg f.cells)[i]?=some (.agg f.cells):=by rw[x8n,Z];rfl
 have Y:(t.args.map fun a=>AV.agg a.cells).length=t.args.length:=x8g _;have U:(O.map AV.str).length=O.length:=x8g _;repeat' ((first|(refine gX ?_;intros)|refine WF (es:=[]) rfl (by simp) ?_|refine cP J ?_|(apply bN<;>intro _))<;>conv=>whnf)
 all_goals
  refine LoopK.inv XD (fun x:Nat×List Str=>⟨[(0,.p (.ip b.cells)),(5,.hd 0 0 x.2.length),(6,.j i),(23,.p (.sl (t.args.map fun a=>.agg a.cells))),(24,.p (.int .i64 (t.args.map fun a=>AV.agg a.cells).length)),(25,.j x.1)],[(0,.own 9 1 (x.2.map .str))]⟩) (fun x=>x.1<=t.args.length/\x.2=(if t.name=[]then []else [t.name])++Ow t f O x.1) (fun x=>t.args.length-x.1) (0,if t.name=[]then []else [t.name]) ?_ ⟨x8m _,by simp[Ow]⟩ ?_
  ·first
    | (have l:(t.name==[])=true:=by assumption
       rw[if_pos (eq_of_beq l)];exact lM [(0,.own 9 1 [])])
    | (have l:(t.name==[])=false:=by assumption
       rw[if_neg (by simpa using l)];exact Le.of_eq rfl)
  rintro⟨j,h⟩ ⟨L,u⟩;simp only at L u⊢;have K:h.length<=j+1:=by
   rw[u,x8d];have:=C3 t f O j;split<;>simp<;>omega
  rcases x8a j t.args.length with c|c
  ·have d:j<f.B.length:=by omega
   have n:=Ov (O:=O) c d;have F:=hH f.B[j].name;have I:(f.B.map fun a=>AV.agg a.cells)[j]?=some (.agg f.B[j].cells):=by rw[x8n,x8h d];rfl
   conv=>whnf
   repeat' ((first|refine dA ?_|(refine gX ?_;intros)|refine iT y ?_|refine iT G ?_|refine iT I ?_|refine cP F ?_|refine WF (by simp) (by rw[x8g];omega) ?_|((first|apply bD|apply bB)<;>intro _<;>try omega))<;>conv=>whnf)
   all_goals first
    | (have l:t.args[j].ref=true:=by assumption
       have m:inS O f.B[j].name=true:=by assumption
       exact⟨(j+1,h++[t.args[j].name]),⟨c,by simp only;rw[n,if_pos (show t.args[j].ref=true/\inS O f.B[j].name=true from⟨l,m⟩),u,x9u]⟩,by simp only;omega,Le.of_eq (by simp only[x8d,x8i];rfl)⟩)
    | (have m:inS O f.B[j].name=false:=by assumption
       exact nX (j+1,h) ⟨c,by simp only;rw[n,if_neg (show ¬(t.args[j].ref=true/\inS O f.B[j].name=true)from fun z=>by rw[m]at z;cases z.2),x9c];exact u⟩)
    | (have l:t.args[j].ref=false:=by assumption
       exact nX (j+1,h) ⟨c,by simp only;rw[n,if_neg (show ¬(t.args[j].ref=true/\inS O f.B[j].name=true)from fun z=>by rw[l]at z;cases z.1),x9c];exact u⟩)
  ·obtain rfl:j=t.args.length:=by omega
   conv=>whnf
   repeat' ((first|(refine iM fun _=>?_)|refine iT y ?_|(apply bD<;>intro _<;>try omega))<;>conv=>whnf)
   refine lI (fun x:Nat×List Str=>⟨[(0,.p (.ip b.cells)),(5,.hd 0 0 x.2.length),(70,.p (eStrs O)),(71,.p (.int .i64 (O.map AV.str).length)),(72,.j x.1)],[(0,.own 9 1 (x.2.map .str))]⟩) (fun x=>x.1<=O.length/\x.2=h++(O.take x.1).filter (comB b.s.p)/\x.2.length<=h.length+x.1) (fun x=>O.length-x.1) (0,h) ⟨x8m _,by simp,by simp⟩ ?_;rintro⟨q,o⟩ ⟨M,v,Q⟩;simp only at M v Q⊢;rcases x8a q O.length with g|g
   ·have e:=x8c g;have E:=D O[q];conv=>whnf
    repeat' ((first|(refine gX ?_;intros)|refine cP E ?_|refine WF (by simp) (by rw[x8g];omega) ?_|((first|apply bD|apply bB)<;>intro _<;>try omega))<;>conv=>whnf)
    all_goals first
     | (have l:comB b.s.p O[q]=true:=by assumption
        exact⟨(q+1,o++[O[q]]),⟨g,by simp only;rw[e,z0b,z1l l,v,x9u];rfl,by simp;omega⟩,by simp only;omega,Le.of_eq (by simp only[x8d,x8i];rfl)⟩)
     | (have l:comB b.s.p O[q]=false:=by assumption
        exact nX (q+1,o) ⟨g,by simp only;rw[e,z0b,z2z (by rw[l];decide),v];simp,by simp only;omega⟩)
   ·rw[x9q g]at v;have w:o=q7n b.s.p t f O:=by rw[v,u];rfl
    subst w;conv=>whnf
    repeat' (apply bD<;>intro _<;>first|omega|conv=>whnf)
    all_goals exact z1z _ (x9j _) (OneRow.str rfl)
def retS:Str:=[36,114,101,116]
def caI(p:Pg)(t:S):Int:=idxF (fun f=>f.name==t.C) p.A
def caP(p:Pg)(t:S):Pr:=p.A.getD (caI p t).toNat Pr0
def caO(b:Book)(t:S):List Str:=b.zb.getD (caI b.s.p t).toNat []
def LC(b:Book)(t:S):List Str:=if t.kind=1 then [t.name]else if t.kind=2 then [t.name,HM]else if t.kind=9 then [retS]else if t.kind=4 then q7n b.s.p t (caP b.s.p t) (caO b t)else []
structure CallOk(b:Book)(t:S):Prop where
 i0:0<=caI b.s.p t
 i1:(caI b.s.p t).toNat<b.s.p.A.length
 io:b.s.p.A.length<=b.zb.length
 rise:(caO b t).Pairwise ltT
 len:(caO b t).length<=1000000
 args:t.args.length<=(caP b.s.p t).B.length
 al:t.args.length<=1000000
theorem EY{b:Book}{t:S}(h:CallOk b t):SpecH prog 161 ([AV.ip b.cells,.agg t.cells].map .p) [] (OneRow (Gz (q7n b.s.p t (caP b.s.p t) (caO b t))) False):=by
 have i:=h.i1;have l:=h.io;refine Uq b t (caI b.s.p t).toNat (caP b.s.p t) (caO b t) ?_ ?_ ?_ h.rise h.len h.args h.al
 ·rw[z3o h.i0];rfl
 ·unfold caP;rw[x8f,x8h i];rfl
 ·unfold caO;rw[x8f,x8h (by omega)];rfl
theorem Hq(b:Book)(t:S)(l:t.kind=4->CallOk b t):SpecH prog 105 [.p (.ip b.cells),.p (.agg t.cells)] [] (fun r H=>OneRow (Gz (LC b t)) (LC b t=[]) r H):=by
 refine sK U0 func105 ?_;conv=>whnf
 have m:=fun h=>EY (l h);repeat' ((first|refine x9g rfl ?_|refine aD ?_|refine z4x (fun x i=>by rcases x8l.1 i with rfl;rfl) rfl ?_|refine z4x (fun x i=>by rcases x8r.1 i with rfl|i;rfl;rcases x8l.1 i with rfl;rfl) rfl ?_|(refine WR 0 rfl (m (by assumption)) (.cons (.p (Sub.refl _)) (.cons (.p (Sub.refl _)) .nil)) (fun h=>h.elim) ?_;rintro _ _ _ _ ⟨rfl,rfl,rfl⟩)|(apply bD<;>intro _<;>try omega))<;>conv=>whnf)
 ·rw[show LC b t=[t.name] by unfold LC;rw[if_pos (by assumption)]];exact z1z _ (x9j _) (YZ (L:=[t.name]) rfl)
 ·rw[show LC b t=[t.name,HM] by unfold LC;rw[if_neg (by assumption),if_pos (by assumption)]];exact z1z _ (x9j _) (YZ (L:=[t.name,HM]) rfl)
 ·rw[show LC b t=[retS] by unfold LC;rw[if_neg (by assumption),if_neg (by assumption),if_pos (by assumption)]];exact z1z _ (x9j _) (YZ (L:=[retS]) rfl)
 ·rw[show LC b t=q7n b.s.p t (caP b.s.p t) (caO b t) by unfold LC;rw[if_neg (by assumption),if_neg (by assumption),if_neg (by assumption),if_pos (by assumption)]];exact z1z _ (x9j _) (YZ (by rw[x8g]))
 ·exact z1z _ (x9j _) (.inl ⟨rfl,rfl,by unfold LC;rw[if_neg (by assumption),if_neg (by assumption),if_neg (by assumption),if_neg (by assumption)]⟩)
def outB(p:Pg)(f:Pr)(n:Str):Bool:=comB p n||decide ((⟨n,true⟩:Param)∈f.B)
def Ze(D:List (List Str))(id:Int):List Str:=D.getD (id-1).toNat []
def x1i(p:Pg)(i:Nat)(f:Pr)(D:List (List Str))(h:Item):List Str:=bif (QQ p i f).live.getD (ixI p i f h.s.id).toNat false then(Ze D h.s.id).filter (outB p f)else []
def Ri(p:Pg)(i:Nat)(f:Pr)(D:List (List Str))(h:List Item):List Str:=h.flatMap (x1i p i f D)
def O3{p:Pg}{i:Nat}{D:List (List Str)}{h:List Item}{k:Nat}(l:k<h.length):Ri p i f D (h.take (k+1))=Ri p i f D (h.take k)++x1i p i f D h[k]:=by
 unfold Ri;rw[x8c l,z1q];simp
def SM{p:Pg}{i:Nat}{D:List (List Str)}(n:∀d∈D,d.length<=1000)(l:List Item):(Ri p i f D l).length<=l.length*1000:=by
 refine ZV l fun m _=>?_;unfold x1i;cases(QQ p i f).live.getD (ixI p i f m.s.id).toNat false with
 |false=>exact x8m _
 | true=>
   refine x9r (z0i _ _) ?_;unfold Ze;rcases x8a (m.s.id-1).toNat D.length with h|h
   .rw [x8f,x8h h];exact n _ (x8o h)
   .rw [x8f,z0d h];exact x8m _
theorem Hx(b:Book)(p:Pg)(hp:b.s=sheetOf p)(h:QL p=true)(i:Nat)(f:Pr)(F:p.A[i]?=some f)(hW:b.ways[i]?=some (QQ p i f))(hD:b.Y.length=(sheetOf p).l.length)(V:∀d∈b.Y,d.length<=1000):SpecH prog 106 [.p (.ip b.cells),.j i] [] (fun r H=>OneRow (Gz (Ri p i f b.Y (itsOf p i f))) False r H):=by
 refine sK U1 func106 ?_;conv=>whnf
 obtain⟨Q,_,_,Z,hs⟩:=QU p;obtain⟨s1,s2,s3,s4⟩:=hs i f F;have hcn:=(XZ h).2.2;have J:=Qe (sheetOf p) i (QC p.A i) (QC p.A i+QY f.body) s1 s2 (by omega) (by omega) (by omega);rw[s4]at J;have R:itL (i:Nat) 0 (-1) 0 (QC p.A i) f.body=itsOf p i f:=rfl;rw[R,<-hp]at J;have E:b.s.p=p:=by rw[hp,Q]
 have e:=fun x=>JU b x;rw[E]at e;have K:(b.s.p.A.map fun f=>AV.agg f.cells)[i]?=some (.agg f.cells):=by rw[E,x8n,F];rfl
 have L:(b.ways.map fun w=>AV.ip w.cells)[i]?=some (.ip (QQ p i f).cells):=by rw[x8n,hW];rfl
 have hIl:((itsOf p i f).map fun i=>AV.agg i.cells).length=(itsOf p i f).length:=x8g _;have hil:(itsOf p i f).length<=200:=by
  have U:=z0o List.length s4;rw[R,z1k,x9n]at U;omega
 have C:∀k,(Ri p i f b.Y ((itsOf p i f).take k)).length<=200*1000:=fun k=>by
  have U:=SM (p:=p) (i:=i) (f:=f) V ((itsOf p i f).take k);have h2:((itsOf p i f).take k).length*1000<=200*1000:=z0y _ (by rw[x9n];omega);omega
 repeat' ((first|(refine iM fun _=>?_)|refine x9g rfl ?_|refine iT K ?_|refine cP J ?_)<;>conv=>whnf)
 refine lJ (fun k:Nat=>⟨[(0,.p (.ip b.cells)),(1,.j i),(5,.hd 0 0 (Ri p i f b.Y ((itsOf p i f).take k)).length),(6,.p (.ip f.cells)),(27,.p (ZE (itsOf p i f))),(28,.p (.int .i64 ((itsOf p i f).map fun i=>AV.agg i.cells).length)),(29,.j k)],[(0,.own 9 1 ((Ri p i f b.Y ((itsOf p i f).take k)).map .str))]⟩) (fun k=>k<=(itsOf p i f).length) (fun k=>(itsOf p i f).length-k) 0 (lM [(0,.own 9 1 [])]) (x8m _) ?_;intro k hk;have hak:=C k;rcases x8a k (itsOf p i f).length with m|m;rotate_left 1
 ·rw[x9q m];conv=>whnf
  repeat' (apply bD<;>intro _<;>first|omega|conv=>whnf)
  all_goals exact z1z _ (x9j _) (OneRow.str rfl)
 have t:=O3 (p:=p) (i:=i) (f:=f) (D:=b.Y) m;have hb:=VS (QG h).1 F (BU (x8o m));have I:=FL p i f h F (itsOf p i f)[k].s.id (.inr (.inr hb));have O:x1i p i f b.Y (itsOf p i f)[k]=bif (QQ p i f).live.getD (ixI p i f (itsOf p i f)[k].s.id).toNat false then(Ze b.Y (itsOf p i f)[k].s.id).filter (outB p f)else []:=rfl;have u:((itsOf p i f)[k].s.id-1).toNat<b.Y.length:=by omega
 have M:(b.Y.map eStrs)[((itsOf p i f)[k].s.id-1).toNat]?=some (eStrs (Ze b.Y (itsOf p i f)[k].s.id)):=by
  unfold Ze;rw[x8n,x8f,x8h u];rfl
 have hDl:(Ze b.Y (itsOf p i f)[k].s.id).length<=1000:=by
  unfold Ze;rw[x8f,x8h u];exact V _ (x8o u)
 generalize(QQ p i f).live.getD (ixI p i f (itsOf p i f)[k].s.id).toNat false=lv at*
 rw[O]at t;generalize Ze b.Y (itsOf p i f)[k].s.id=D at*
 generalize Ri p i f b.Y ((itsOf p i f).take k)=acc at*
 have hDm:(D.map AV.str).length=D.length:=x8g _;cases lv;all_goals
  conv=>whnf
  repeat' ((first|(refine gX ?_;intros)|refine dA ?_|refine iT L ?_|refine cP I ?_|refine iT M ?_|((first|apply bD|apply bN)<;>intro _<;>try omega))<;>conv=>whnf)
 all_goals first
  |contradiction
  |exact⟨k+1,m,by omega,Le.of_eq (by rw[t,x9p,x9c];rfl)⟩
  |skip
 all_goals
  rw[x9y]at t;refine lI (fun x:Nat×List Str=>⟨[(0,.p (.ip b.cells)),(1,.j i),(5,.hd 0 0 x.2.length),(6,.p (.ip f.cells)),(27,.p (ZE (itsOf p i f))),(28,.p (.int .i64 ((itsOf p i f).map fun i=>AV.agg i.cells).length)),(29,.j k),(54,.p (eStrs D)),(55,.p (.int .i64 (D.map AV.str).length)),(56,.j x.1)],[(0,.own 9 1 (x.2.map .str))]⟩) (fun x=>x.1<=D.length/\x.2=acc++(D.take x.1).filter (outB p f)/\x.2.length<=acc.length+x.1) (fun x=>D.length-x.1) (0,acc) ⟨x8m _,by simp,by simp⟩ ?_;rintro⟨q,o⟩ ⟨h4,y,h6⟩;simp only at h4 y h6⊢;rcases x8a q D.length with z|z
  ·have v:=x8c z;have G:=e D[q];have g:=VN f.B ⟨D[q],true⟩;have n:outB p f D[q]=(comB p D[q]||decide ((⟨D[q],true⟩:Param)∈f.B)):=rfl;generalize hdc:decide ((⟨D[q],true⟩:Param)∈f.B)=dc at g n;conv=>whnf
   repeat' ((first|(refine gX ?_;intros)|refine cP G ?_|refine cP g ?_ (ha:=.cons (Sub.refl _) (.cons (Sub.agg (.cons (Sub.refl _) (.cons (Sub.tt rfl) .nil))) .nil))|refine WF (by simp) (by rw[x8g];omega) ?_|((first|apply bD|apply bB)<;>intro _<;>try omega))<;>conv=>whnf)
   all_goals first
    | (have c:outB p f D[q]=true:=by rw[n,show comB p D[q]=true by assumption];rfl
       exact⟨(q+1,o++[D[q]]),⟨z,by simp only;rw[v,z0b,z1l c,y,x9u];rfl,by simp;omega⟩,by simp only;omega,Le.of_eq (by simp only[x8d,x8i];rfl)⟩)
    | (have c:outB p f D[q]=true:=by rw[n,show dc=true by assumption,Bool.or_true]
       exact⟨(q+1,o++[D[q]]),⟨z,by simp only;rw[v,z0b,z1l c,y,x9u];rfl,by simp;omega⟩,by simp only;omega,Le.of_eq (by simp only[x8d,x8i];rfl)⟩)
    | (have c:outB p f D[q]=false:=by rw[n,show comB p D[q]=false by assumption,show dc=false by assumption];rfl
       exact nX (q+1,o) ⟨z,by simp only;rw[v,z0b,z2z (by rw[c];decide),y];simp,by simp only;omega⟩)
  ·rw[x9q z,<-t]at y;subst y;conv=>whnf
   repeat' ((first|refine wI ?_|(apply bD<;>intro _<;>try omega))<;>conv=>whnf)
   all_goals exact nX (k+1) m
theorem IR(x:X):SpecH prog 163 ([AV.agg x.cells].map .p) [] (OneRow (Gz (XL x)) (XL x=[])):=by
 refine sK V5 func163 ?_;conv=>whnf
 repeat' ((first|refine cP (PQ _) ?_|(apply bN<;>intro _))<;>conv=>whnf)
 ·refine CallK.nil 5 9 1 rfl (.cons rfl (.row .nil)) ?_;refine cJ [(2000,5)] 0 (Gu 20 (by omega) x (by assumption) [] (by simp)) ?_;rintro l' H' ⟨rfl,rfl⟩;conv=>whnf
  have e:XL x=Mu x []:=by
   unfold XL;rw[show IB x=true by assumption];rfl
  rw[e];exact z1z _ (x9j _) (MB rfl)
 ·have e:XL x=[]:=by
   unfold XL;rw[show IB x=false by assumption];rfl
  exact z1z _ (x9j _) (.inl ⟨rfl,rfl,e⟩)
def usA(a:Arg):List Str:=(if a.ref=true then [a.name]else [])++XL a.x
def inAt(b:Book)(t:S):List Str:=b.ins.getD (caI b.s.p t).toNat []
def E7(t:S):List Str:=XL t.x++(if t.kind=2 then [HM]else [])
def Z1(b:Book)(t:S):List Str:=if t.kind=4 then E7 t++t.args.flatMap usA++inAt b t else E7 t
theorem q0v(a:Arg):(usA a).length<=1048577:=by
 have:=UW a.x;unfold usA;rw[x8d];split<;>simp<;>omega
theorem Cd(t:S):(E7 t).length<=1048577:=by
 have:=UW t.x;unfold E7;rw[x8d];split<;>simp<;>omega
def E0(t:S)(j:Nat):List Str:=E7 t++(t.args.take j).flatMap usA
theorem q1x(t:S)(ha:t.args.length<=21000):(E0 t j).length<=23000000000:=by
 have h:=Cd t;have i:=XK q0v (t.args.take j);have l:(t.args.take j).length*1048577<=21000*1048577:=z0y _ (by simp;omega);unfold E0;simp only[x8d];omega
def Eb{t:S}(h:j<t.args.length):E0 t (j+1)=E0 t j++usA t.args[j]:=by
 unfold E0;rw[x8c h,z1q,x9u];simp
theorem OneRow.es{L:List Str}{es:List AV}{n:Nat}{nil:Prop}(i:es=L.map .str)(h:n=L.length):OneRow (Gz L) nil (.hd 0 0 n) [(0,.own 9 1 es)]:=by
 subst i;exact YZ h
structure UseOk(b:Book)(t:S):Prop where
 i0:0<=caI b.s.p t
 ii:(caI b.s.p t).toNat<b.ins.length
 al:t.args.length<=21000
 len:(inAt b t).length<=1000000
theorem Hz(b:Book)(t:S)(d:t.kind=4->UseOk b t):SpecH prog 108 [.p (.ip b.cells),.p (.agg t.cells)] [] (fun r H=>OneRow (Gz (Z1 b t)) (Z1 b t=[]) r H):=by
 refine sK U2 func108 ?_;conv=>whnf
 have B:=IR t.x;have z:=ZI b t;have g:idxF (fun f=>f.name==t.C) b.s.p.A=caI b.s.p t:=rfl;rw[g]at z;have I:=UW t.x;conv=>whnf
 refine WR 0 rfl B (.cons (.p (Sub.refl _)) .nil) (fun l=>?_) (fun q e sz es D=>?_);rotate_left;obtain⟨rfl,rfl,rfl⟩:=D
 rotate_right
 all_goals
  conv=>whnf
  repeat' ((first|(refine gX ?_;intros)|refine WF (es:=[]) rfl (by simp) ?_|refine pS ?_|((first|apply bD|apply bE)<;>intro _<;>try omega))<;>conv=>whnf)
 ·have e:Z1 b t=[HM]:=by unfold Z1 E7;rw[if_neg (by assumption),if_pos (by assumption),l];rfl
  rw[e];exact z1z _ (x9j _) (YZ (L:=[HM]) rfl)
 rotate_left
 ·have e:Z1 b t=[]:=by unfold Z1 E7;rw[if_neg (by assumption),if_neg (by assumption),l];rfl
  exact z1z _ (x9j _) (.inl ⟨rfl,rfl,e⟩)
 ·have e:Z1 b t=XL t.x++[HM]:=by unfold Z1 E7;rw[if_neg (by assumption),if_pos (by assumption)]
  rw[e];exact z1z _ (x9j _) (OneRow.es (by rw[x8i];rfl) (by simp))
 rotate_left
 ·have e:Z1 b t=XL t.x:=by unfold Z1 E7;rw[if_neg (by assumption),if_neg (by assumption),x9c]
  rw[e];exact z1z _ (x9j _) (OneRow.es rfl (by simp))
 all_goals
  have n:t.kind=4:=by assumption
  have v:=d n;have e0:E0 t 0=XL t.x:=by unfold E0 E7;rw[if_neg (by omega),z5s,List.flatMap_nil,x9c,x9c]
  have K:(t.args.map fun a=>AV.agg a.cells).length=t.args.length:=x8g _;have E:(b.ins.map eStrs)[(caI b.s.p t).toNat]?=some (eStrs (inAt b t)):=by
   unfold inAt;rw[x8n,x8f,x8h v.ii];rfl
  have hi0:=v.i0;have F:=v.len;have w:=v.al;refine LoopK.inv XD (fun j:Nat=>⟨[(0,.p (.ip b.cells)),(3,.p (.ip t.cells)),(5,.hd 0 0 (E0 t j).length),(22,.p (.sl (t.args.map fun a=>.agg a.cells))),(23,.p (.int .i64 (t.args.map fun a=>AV.agg a.cells).length)),(24,.j j)],[(0,.own 9 1 ((E0 t j).map .str))]⟩) (fun j=>j<=t.args.length) (fun j=>t.args.length-j) 0 ?_ (x8m _) ?_
  ·first
    | (rw[e0,l]
       exact lM [(0,.own 9 1 [])])
    | (rw[e0]
       exact Le.of_eq (by rw[x8g];rfl))
  intro j J;have c:=q1x t (j:=j) w;have m:t.args.length<=j->Z1 b t=E0 t j++inAt b t:=fun h=>by
   unfold Z1 E0;rw[if_pos n,x9q h]
  have u:=fun h=>Eb (t:=t) (j:=j) h;generalize E0 t j=acc at*
  rcases x8a j t.args.length with i|i
  ·have G:=UW t.args[j].x;conv=>whnf
   repeat' ((first|refine cP (PS _) ?_|(refine gX ?_;intros)|refine DY _ (by simp) (by simp;omega) ?_|refine pS ?_|((first|apply bD|apply bB)<;>intro _<;>try omega))<;>conv=>whnf)
   all_goals
    refine⟨j+1,i,by omega,Le.of_eq ?_⟩;first
     | (have y:usA t.args[j]=[t.args[j].name]++XL t.args[j].x:=by rw[usA,if_pos (by assumption)]
        rw[u i,y];simp only[x8d,x8i,x8g,<-x9u,<-z2r];rfl)
     | (have y:usA t.args[j]=XL t.args[j].x:=by rw[usA,if_neg (by rw[show t.args[j].ref=false by assumption];decide)];rfl
        rw[u i,y];simp only[x8d,x8i,x8g];rfl)
  ·rw[m i];conv=>whnf
   repeat' ((first|refine dA ?_|refine aD ?_|refine cP z ?_|refine iT E ?_|refine DY _ (by simp) (by simp;omega) ?_|(apply bD<;>intro _<;>try omega))<;>conv=>whnf)
   all_goals exact z1z _ (x9j _) (OneRow.es (by rw[x8i]) (by simp))
def GL(w:Way)(f:Pr):List (Int×Int):=(Ql w f).map (ixP w.p w.j f w.n)
theorem TF(w:Way)(f:Pr)(n:Nat)(h:WayT w f n)(E:∀t∈GL w f,(0<=t.1/\t.1<n)/\0<=t.2/\t.2<n)(l:(Ql w f).length<=1000000):aP 164 [.ip w.cells] (eMat (YQ n (GL w f))):=by
 refine sC Do func164 ?_;conv=>whnf
 have G:=h.hw;have D:=h.hn;have C:=h.hn2;have A:=Ve w f n h;have e:=WO w f h.hj h.hc (by omega) (Ql w f) l;have F:(avP (GL w f)).length=(GL w f).length:=by unfold avP;rw[x8g]
 have g:(GL w f).length<=1000000:=by unfold GL;rw[x8g];exact l
 have b:(Ql w f).map (ixP w.p w.j f w.n)=GL w f:=rfl;rw[b]at e;repeat' ((first|(refine gX ?_;intros)|refine z3k n (by omega) (by show 24*_<=140737488355328;omega) (by unfold maxLen;omega) ?_|refine cP A ?_|refine cP e ?_)<;>conv=>whnf)
 refine lJ (fun j:Nat=>⟨[(3,.hd 0 0 n),(14,.p (.sl (avP (GL w f)))),(15,.p (.int .i64 (avP (GL w f)).length)),(16,.j j)],[(0,.ext (.mat 56 3 1 (avI (YQ n ((GL w f).take j))) []))]⟩) (fun j=>j<=(GL w f).length) (fun j=>(GL w f).length-j) 0 (by
   refine Le.trans (Mo n rfl) ?_;exact lE (hH:=.cons rfl (.of_eq (by simp[avI,YQ])) .nil)) (x8m _) ?_
 intro j M;rcases x8a j (GL w f).length with v|v
 ·have r:(avP (GL w f))[j]?=some (.agg [.int .i64 (GL w f)[j].1,.int .i64 (GL w f)[j].2]):=by simp[avP,v]
  obtain⟨⟨I,J⟩,K,L⟩:=E _ (x8o v);have u:YQ n ((GL w f).take (j+1))=nxE (YQ n ((GL w f).take j)) (GL w f)[j]:=by
   unfold YQ;rw[x8c v,z2h];rfl
  have d:=BH n ((GL w f).take j);have i:=Xz n ((GL w f).take j) (GL w f)[j].1.toNat;generalize(GL w f)[j]=t at r I J K L u i;generalize YQ n ((GL w f).take j)=rows at u d i⊢;obtain⟨a,ha⟩ : ∃a:Nat,t.1=a:=⟨t.1.toNat,by omega⟩;have q:a<rows.length:=by omega
  have m:(avI rows)[a]?=some (rows[a].map (.int .i64)):=by unfold avI;rw[x8n,x8h q];rfl
  have y:(avI rows).set a (rows[a].map (.int .i64)++[.int .i64 t.2])=avI (nxE rows t):=by
   unfold nxE avI;rw[ha,z0x,x8f,x8h q,x9i,z0q,x8i];rfl
  have B:rows[a].length<=1000000:=by
   rw[ha,z0x,x8f,x8h q,x9i,x9n]at i;omega
  rw[ha]at r;conv=>whnf
  repeat' ((first|refine x9g rfl ?_|refine aD ?_|refine wI ?_|refine DrawK.of XD mixed (.cons 0 false (.cons 1 false (.cons 2 false (.cons 3 false (.cons 4 false (.cons 5 false (.cons 6 false (.cons 8 false (.cons 9 false (.alo 7 (.cons 10 true (.cons 11 true (.cons 12 true (.cons 13 true .nil)))))))))))))) (by kernel_rfl) ?_|refine iT r ?_|refine z1x 0 rfl (by decide) ?_|refine z1x 1 rfl (by decide) ?_|refine iO a ?_|refine z3d a _ (by omega) m (by simp) ?_|refine z4x (fun x H=>by rcases x8l.1 H with rfl;rfl) rfl ?_|refine OpK.focus XD 27 0 a 2 rfl rfl m (by simp) rfl rfl ?_|refine LA rfl (by rw[x8g];omega) ?_|(refine ZA XD rfl rfl rfl rfl rfl rfl rfl rfl rfl (by decide) a [] (by omega) (by unfold avI;rw[x8g];omega) (by simp) ⟨by simp,by simp,by simp⟩ ?_)|(apply bD<;>intro _<;>try omega))<;>conv=>whnf)
  all_goals exact⟨j+1,v,by omega,Le.of_eq (by rw[u,<-y];rfl)⟩
 ·have c:(GL w f).take j=GL w f:=x9q v;rw[c];have z:=BH n (GL w f);conv=>whnf
  repeat' (apply bD<;>intro _<;>first|omega|conv=>whnf)
  exact⟨_,.mat rfl (by unfold avI;rw[x8g,z]),rfl⟩
section
variable {p:Pg}{j:Nat}{f:Pr}
def dR(p:Pg)(j:Nat)(f:Pr):Int->Int->Prop:=stR (Ql (QQ p j f) f)
def x1x(h:QL p=true)(m:p.A[j]?=some f){b:Int}:dR p j f a b↔wR p j f a b\/∃l∈trapsW (QQ p j f) f,∃t∈flL f.body,t.id∈l/\t.kind=10/\a=t.id/\b = -1:=by
 constructor
 .rintro ⟨s,u,rfl,rfl⟩;rcases x8e.1 ((HH (Bv h m)).2.1 s u)with n|n
  .obtain ⟨l,r,t,v,i,q,rfl⟩:=(PA h m).1 n;exact .inr ⟨l,r,t,v,i,q,rfl,rfl⟩
  .exact .inl ⟨s,n,rfl,rfl⟩
 .rintro (⟨s,u,rfl,rfl⟩|⟨l,r,t,v,i,q,rfl,rfl⟩)
  .exact EH h m (x8e.2 (.inr u))
  .exact EH h m (s:=⟨t.id,-1,3⟩) (x8e.2 (.inl ((PA h m).2 ⟨l,r,t,v,i,q,rfl⟩)))
def x3f(h:QL p=true)(i:p.A[j]?=some f){b:Int}(n:dR p j f a b):plP p j f a/\plP p j f b:=by
 have m:x2a p j f a b:=by
  rcases(x1x h i).1 n with l|l
  .exact (Ef h i).2 (.inl l)
  .exact (Ef h i).2 (.inr (.inr (.inl l)))
 exact⟨(q7g h i m).1,(q7g h i m).2.1⟩
def FF(h:QL p=true)(m:p.A[j]?=some f):∀t∈GL (QQ p j f) f,(0<=t.1/\t.1<(QY f.body+2:Nat))/\0<=t.2/\t.2<(QY f.body+2:Nat):=fun t q=>by
 obtain⟨s,n,rfl⟩:=x8s.1 q;obtain⟨i,l⟩:=x3f h m ⟨s,n,rfl,rfl⟩;exact⟨KY i,KY l⟩
end

mutual
theorem x7j(C d i:Int)(e:Bool):∀(t:S){nest m:Int}(nx lp:Int)(n:Nat),D3 nest n t=some m->(itS C i nx lp n t).map (fun it=>(it.s,it.up))=(fuS d i e t).map fun x=>(x.s,x.zc)
 | .mk id kind Z name pr x has args M V,nest,m,nx,lp,n,h=>by
   obtain⟨_,hid,m1,h3,h4⟩:=PM h;have hid:id=(n:Int)+1:=hid;have hm1:=JM _ _ M h3;have h3':YE (nest+1) ((n+1:Nat):Int) M=some m1:=by rw[<-h3];rfl
   have h4':YE (nest+1) ((n+1+QY M:Nat):Int) V=some m:=by
    rw[<-h4,hm1];congr 1
   rw[itS,fuS,x9f,x9f,x8i,x8i,<-hid,x3q C (d+1) id false M _ _ _ h3',x3q C (d+1) id true V _ _ _ h4']
theorem x3q(C d i:Int)(e:Bool):∀(l:List S){nest m:Int}(nx lp:Int)(n:Nat),YE nest n l=some m->(itL C i nx lp n l).map (fun it=>(it.s,it.up))=(fuL d i e l).map fun x=>(x.s,x.zc)
 |[],_,_,_,_,_,_=>by rw[itL,fuL];rfl
 | t::r,nest,m,nx,lp,n,h=>by
   obtain⟨_,m1,h1,h2⟩:=HB h;have hm1:=Py _ _ t h1;have h2':YE nest ((n+WS t:Nat):Int) r=some m:=by rw[<-h2,hm1];rfl
   rw[itL,fuL,x8i,x8i,x7j C d i e t _ _ _ h1,x3q C d i e r _ _ _ h2']
end

section
variable {p:Pg}{j:Nat}{f:Pr}
end
theorem Et{p:Pg}(r:(QO p).1=0):(YM p).1=0 ↔ ∀t∈UD p,t.kind=4->DA p t=true:=by
 unfold YM;rw[if_neg (by omega)];cases l:(UD p).find? fun t=>decide (t.kind=4) && !DA p t with
 | some t=>
   have m:=z2o l;have i:=z3s l;simp only[x9w,z0w,z2v]at i;refine⟨fun h=>by simp at h,fun h=>?_⟩;have:=h t m i.1;rw[i.2]at this;cases this
 | none=>
   refine⟨fun _ t q n=>?_,fun _=>rfl⟩;have:=z3h.1 l t q;simp only[x9w,z0w,z2v,not_and]at this;simpa using this n
end Go.Ab
