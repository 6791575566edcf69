/- The library's contracts at this seat's program, in plain words (printed by the kit's lay-plain.mjs). Conditions: none. -/
import Derived.Test.YtgpjfppgphaobaaGreatHasA16
set_option linter.all false
set_option maxRecDepth 100000
set_option maxHeartbeats 16000000
namespace Go.Proofs
open Go.Shelf Tryz
def Tryz.laysG_ren:Go.Shelf.Ren:=⟨fun|6=>132|15=>150|14=>180|28=>200|29=>201|20=>233|21=>234|22=>235|23=>236|24=>237|25=>238|26=>239|27=>240|46=>264|47=>245|48=>246|49=>265|50=>266|57=>284|n=>n,fun|22=>138|24=>141|25=>198|3=>3|39=>210|0=>0|53=>249|55=>251|4=>4|46=>242|45=>241|50=>90|5=>5|9=>9|66=>281|70=>285|76=>303|77=>304|n=>n,fun|n=>n⟩
theorem kT16{α:Type}{x:Option α}{a b:α}(h:x=some a)(e:a=b:=by kernel_rfl):x=some b:=e▸h
def T7:Go.Proofs.SlLaysF0.n6 Tryz.prog Tryz.laysG_ren:=⟨by kernel_rfl,⟨f132.name,by decide,kT16 func132⟩,⟨f180.name,by decide,kT16 func180⟩,kT16 func150,⟨f233.name,by decide,kT16 func233⟩,⟨f234.name,by decide,kT16 func234⟩,⟨f235.name,by decide,kT16 func235⟩,⟨f236.name,by decide,kT16 func236⟩,⟨f237.name,by decide,kT16 func237⟩,⟨f238.name,by decide,kT16 func238⟩,⟨f239.name,by decide,kT16 func239⟩,⟨f240.name,by decide,kT16 func240⟩,kT16 func200,kT16 func201,⟨f264.name,by decide,kT16 func264⟩,kT16 func245,kT16 func246,⟨f265.name,by decide,kT16 func265⟩,⟨f266.name,by decide,kT16 func266⟩,⟨f284.name,by decide,kT16 func284⟩,underlying0,isAgg0,sizeOf0,zeroValue0,underlying3,isAgg3,sizeOf3,zeroValue3,underlying4,isAgg4,sizeOf4,zeroValue4,underlying5,isAgg5,sizeOf5,zeroValue5,underlying9,isAgg9,sizeOf9,zeroValue9,underlying138,isAgg138,sizeOf138,zeroValue138,underlying198,isAgg198,sizeOf198,zeroValue198,underlying210,isAgg210,sizeOf210,zeroValue210,underlying241,isAgg241,sizeOf241,zeroValue241,underlying242,isAgg242,sizeOf242,zeroValue242,underlying90,isAgg90,sizeOf90,zeroValue90,underlying249,isAgg249,sizeOf249,zeroValue249,underlying251,isAgg251,sizeOf251,zeroValue251,underlying281,isAgg281,sizeOf281,zeroValue281,underlying285,isAgg285,sizeOf285,zeroValue285,underlying303,isAgg303,sizeOf303,zeroValue303,underlying304,isAgg304,sizeOf304,zeroValue304⟩
end Go.Proofs
namespace Go.Ab
open Go.Proofs.Tryz
open Go.Proofs Go.Sort Go.RowKit Go.Lib
variable {a:Int}{fm:List (List Bool)}{j:Nat}{nx:List (List Int)}
structure Fl where
 src:Int
 dst:Int
 var:Str
deriving DecidableEq
def Fl.cells(f:Fl):List AV:=[.int .i64 f.src,.int .i64 f.dst,.str f.var]
def flC(a b:Fl):Int:=orI [cmpI (XU a.src) (XU b.src),cmpI (XU a.dst) (XU b.dst),cmpT a.var b.var]
theorem VZ(a b:Str):aP 135 [.str a,.str b] (.int .i64 (cmpT a b)):=by
 refine sC HG func135 ?_;conv=>whnf
 repeat' ((first|refine cP (UP a) ?_|refine cP (UP b) ?_|((first|apply bN|apply bB)<;>intro _<;>try omega))<;>conv=>whnf)
 all_goals first
  |contradiction
  | (have i:Op.bytesLess a b=true:=by assumption
     exact RetK.int (by unfold cmpT;rw[if_pos i]))
  | (have i:Op.bytesLess a b=false:=by assumption
     have l:(Op.bytesLess a b||a==b)=true:=by assumption
     have m:a=b:=by rw[i]at l;simpa using l
     exact RetK.int ((cmpT_k.zero a b).2 m).symm)
  | (have i:Op.bytesLess a b=false:=by assumption
     have l:(Op.bytesLess a b||a==b)=false:=by assumption
     have m:a≠b:=by
      rw[i]at l;rintro rfl;simp at l
     have q:Op.bytesLess b a=true:=by
      rcases ltT.total m with h|h
      ·exact absurd h (by unfold ltT;rw[i];decide)
      ·exact h
     exact RetK.int (by unfold cmpT;rw[if_neg (by rw[i];decide),if_pos q]))
def Qk(a b:Fl):aP 133 [.agg a.cells,.agg b.cells] (.int .i64 (flC a b)):=by
 refine sC BG func133 ?_;conv=>whnf
 have h:=VZ a.var b.var;repeat' ((first|refine cP (Df _) ?_|refine cP (WI _ _) ?_|refine cP (GK [cmpI (XU a.src) (XU b.src),cmpI (XU a.dst) (XU b.dst),cmpT a.var b.var]) ?_|refine dA ?_|refine x2j rfl ?_|refine aD ?_|refine BsK.pureL rfl rfl ?_|refine cP h ?_)<;>conv=>whnf)
 all_goals first
  |exact RetK.p rfl
def ltF(a b:Fl):Prop:=XU a.src<XU b.src\/XU a.src=XU b.src/\(XU a.dst<XU b.dst\/XU a.dst=XU b.dst/\ltT a.var b.var)
def DO(a b:Fl):flC a b<0↔ltF a b:=by
 unfold flC ltF;rw[q2j,NL,NL,GJ,JZ,JZ]
def flK(s:Fl):Int×Int×Str:=(XU s.src,XU s.dst,s.var)
def C9(a b:Fl):flC a b=(fun p q:Int×Int×Str=>if cmpI p.1 q.1=0 then(fun p q:Int×Str=>if cmpI p.1 q.1=0 then cmpT p.2 q.2 else cmpI p.1 q.1) p.2 q.2 else cmpI p.1 q.1) (flK a) (flK b):=by
 unfold flC;rw[GN,GN,Hh];rfl
theorem ltF.irr(a:Fl):¬ltF a a:=fun h=>by
 rw[<-DO,C9]at h;exact absurd (((cmpI_k.lex (cmpI_k.lex cmpT_k)).zero _ _).2 rfl) (Int.ne_of_lt h)
theorem ltF.trans(a b c:Fl)(i:ltF a b)(l:ltF b c):ltF a c:=by
 rw[<-DO,C9]at*
 exact(cmpI_k.lex (cmpI_k.lex cmpT_k)).tr _ _ _ i l
theorem ltF.neg{x y z:Fl}(i:¬ltF x y)(l:¬ltF y z):¬ltF x z:=by
 rw[<-DO,C9]at*
 exact(cmpI_k.lex (cmpI_k.lex cmpT_k)).ntr i l
def okFl(s:Fl):Prop:=s.src≠9223372036854775807/\s.dst≠9223372036854775807/\s.var.length<=maxLen
instance:Inhabited {s:Fl // okFl s}:=⟨⟨⟨0,0,[]⟩,by decide,by decide,x1l _⟩⟩
theorem ltF.total{a b:Fl}(ha:okFl a)(m:okFl b)(i:¬ltF a b)(l:¬ltF b a):a=b:=by
 rw[<-DO,C9]at i l;have e:=((cmpI_k.lex (cmpI_k.lex cmpT_k)).ge i).resolve_right l;obtain⟨q,r,v⟩:=a;obtain⟨t,u,x⟩:=b;simp only[flK,Prod.mk.injEq]at e;obtain rfl:q=t:=YV ha.1 m.1 e.1;obtain rfl:r=u:=YV ha.2.1 m.2.1 e.2.1;rw[e.2.2]
def Sf(s:Fl):AV:=.agg s.cells
def KI(l:List Fl):List Fl:=l.mergeSort fun x y=> !decide (flC y x<0)
def S5{l:List Fl}:(KI l).length=l.length:=by unfold KI;simp
def Y0(l:List Fl)(i:∀s∈l,okFl s)(h:l.length<=1000000000):
  aH 132 [.hd 1000 0 l.length,.p (.fn 133 [])] [(1000,.own 141 3 (l.map fun s=>.agg s.cells))] (.p (.tup [])) [(1000,.own 141 3 ((KI l).map fun s=>.agg s.cells))]:=by
 exact Wq (p:=okFl) (cells:=Fl.cells) (k:=3) (fun _=>rfl) (fun x m c q=>by
   simp only[Fl.cells,x1p,x6q,or_false]at q;rcases q with rfl|rfl|rfl
   .rfl
   .rfl
   .exact x3x m.2.2) T7 (by decide) call132 Tryz.isAgg141 Tryz.sizeOf141 141 flC (fun x y _ _=>Qk x y)
  (by simp only[C9];exact(cmpI_k.lex (cmpI_k.lex cmpT_k)).swo fun s:{s:Fl // okFl s}=>flK s.1) (fun x y m u r t=>ltF.total m u (by rw[<-DO];exact r) (by rw[<-DO];exact t)) l i h
section
variable {P:Program}{T:Tab}{N:Nat}{o:Oper}{s:St}
end
theorem SpecH.post{P:Program}{f:FuncId}{args:List LV}{H:Heap}{R R':LV->Heap->Prop}(h:SpecH P f args H R)(B:∀l H',R l H'->∃m,R' l m/\Le 1 ⟨[(0,l)],H'⟩ ⟨[(0,l)],m⟩):SpecH P f args H R':=by
 refine⟨h.go,fun σ β w x e g A=>(h.ok σ β w x e g A).mono fun F w' D=>?_⟩;obtain⟨l,u,σ',β',H',C,y,v,t,q⟩:=D;obtain⟨m,z,c⟩:=B l H' y;obtain⟨σ2,β2,r,b⟩:=c σ' β' {tmps:=#[u],defers:=[]} w' ⟨rfl,rfl,fun i=>by
  match i with
  |0=>simpa[getS]using v
  |i+1=>exact .p (by simpa[getS]using Rep.any _),t⟩
 exact⟨l,u,σ2,β2,m,C,z,by simpa[getS]using r.E 0,r.heap,q.trans b⟩
structure Vx where
 C:Str
 kind:Int
 id:Int
 slot:Str
deriving DecidableEq
def Vx.cells(v:Vx):List AV:=[.str v.C,.int .i64 v.kind,.int .i64 v.id,.str v.slot]
structure Eg where
 G:Vx
 to:Vx
 kind:Int
deriving DecidableEq
def Eg.cells(e:Eg):List AV:=[.str e.G.C,.int .i64 e.G.kind,.int .i64 e.G.id,.str e.G.slot,.str e.to.C,.int .i64 e.to.kind,.int .i64 e.to.id,.str e.to.slot,.int .i64 e.kind]
def avV(l:List Vx):List AV:=l.map fun v=>.agg v.cells
def avE(l:List Eg):List AV:=l.map fun e=>.agg e.cells
def pcO(b:AV)(i:Int)(f:Pr)(v e:LV):Chunk:=.obj 132 (([AV.ip b.cells,.int .i64 i]++f.cells).map .p++[v,e])
def vH(b:AV)(i:Int)(f:Pr)(vs:List Vx):Heap:=[(1000,pcO b i f (.hd 2000 0 vs.length) (.p .nils)),(2000,.own 27 4 (avV vs))]
def eH(b:AV)(i:Int)(f:Pr)(es:List Eg):Heap:=[(1000,pcO b i f (.p .nils) (.hd 2000 0 es.length)),(2000,.own 43 9 (avE es))]
def vHp(b:AV)(i:Int)(f:Pr)(vs:List Vx):Heap:=[(1000,pcO b i f (.hd 1001 0 vs.length) (.p .nils)),(1001,.own 27 4 (avV vs))]
def nHp(b:AV)(i:Int)(f:Pr):Heap:=[(1000,pcO b i f (.p .nils) (.p .nils))]
def eHp(b:AV)(i:Int)(f:Pr)(es:List Eg):Heap:=[(1000,pcO b i f (.p .nils) (.hd 1001 0 es.length)),(1001,.own 43 9 (avE es))]
theorem MT(b:AV)(i:Int)(f:Pr)(k id:Int)(s:Str):aH 71 [.ptr 1000 0,.j k,.j id,.p (.str s)] (nHp b i f) (.p (.agg (Vx.cells ⟨f.name,k,id,s⟩))) (nHp b i f):=by
 refine SpecH.post (R:=fun r H=>r=.p (.agg (Vx.cells ⟨f.name,k,id,s⟩))/\H=(0,.obj 27 ((Vx.cells ⟨f.name,k,id,s⟩).map .p))::nHp b i f) ?_ (fun l H' h=>⟨nHp b i f,⟨h.1,rfl⟩,by
  obtain⟨rfl,rfl⟩:=h;exact lE (hnd:=by simp[nHp])⟩)
 refine sK WP func71 ?_;conv=>whnf
 repeat' ((first|(refine gX ?_;intros)|refine dA ?_|((first|apply bD|apply bE|apply bN|apply bB)<;>intro _<;>try omega))<;>conv=>whnf)
 all_goals exact⟨_,x2u _,rfl,rfl⟩
theorem MS(b:AV)(i:Int)(f:Pr)(vs:List Vx)(k id:Int)(s:Str):aH 71 [.ptr 1000 0,.j k,.j id,.p (.str s)] (vHp b i f vs) (.p (.agg (Vx.cells ⟨f.name,k,id,s⟩))) (vHp b i f vs):=by
 refine SpecH.post (R:=fun r H=>r=.p (.agg (Vx.cells ⟨f.name,k,id,s⟩))/\H=(0,.obj 27 ((Vx.cells ⟨f.name,k,id,s⟩).map .p))::vHp b i f vs) ?_ (fun l H' h=>⟨vHp b i f vs,⟨h.1,rfl⟩,by
  obtain⟨rfl,rfl⟩:=h;exact lE (hnd:=by simp[vHp])⟩)
 refine sK WP func71 ?_;conv=>whnf
 repeat' ((first|(refine gX ?_;intros)|refine dA ?_|((first|apply bD|apply bE|apply bN|apply bB)<;>intro _<;>try omega))<;>conv=>whnf)
 all_goals exact⟨_,x2u _,rfl,rfl⟩
theorem QE(b:AV)(i:Int)(f:Pr)(es:List Eg)(k id:Int)(s:Str):aH 71 [.ptr 1000 0,.j k,.j id,.p (.str s)] (eHp b i f es) (.p (.agg (Vx.cells ⟨f.name,k,id,s⟩))) (eHp b i f es):=by
 refine SpecH.post (R:=fun r H=>r=.p (.agg (Vx.cells ⟨f.name,k,id,s⟩))/\H=(0,.obj 27 ((Vx.cells ⟨f.name,k,id,s⟩).map .p))::eHp b i f es) ?_ (fun l H' h=>⟨eHp b i f es,⟨h.1,rfl⟩,by
  obtain⟨rfl,rfl⟩:=h;exact lE (hnd:=by simp[eHp])⟩)
 refine sK WP func71 ?_;conv=>whnf
 repeat' ((first|(refine gX ?_;intros)|refine dA ?_|((first|apply bD|apply bE|apply bN|apply bB)<;>intro _<;>try omega))<;>conv=>whnf)
 all_goals exact⟨_,x2u _,rfl,rfl⟩
open Go.ChangeShapes
section
variable {H:Type}{enc:TypeId×Value->H}{w:World}
def q2u{v:Value}{r:Nat}{d:DataW H}{E:List MemPlace}(t:Value.okWide prog w .any r 27 v)(h:DataW.Trod enc prog w 0 (fun _=>true) true 27 v d E):∃p:Vx,Rep (YW w) (.agg p.cells) v:=by
 have y:prog.underlying 27=some (.struct (Pe ty27)):=by kernel_rfl
 unfold Value.okWide at t;rw[y]at t;obtain⟨cs,rfl,_,_⟩:=t;obtain⟨n,D⟩:=h;obtain⟨xs,m,rfl,_,l,u,C⟩:=DataW.trod_struct (fs:=Pe ty27) y D;replace l:=l.trans (show _=4 by kernel_rfl);have q:=fun(i:Nat) (f:Field) (x:(Pe ty27)[i]?=some f)=>(C i f x).trans (x1k (by rw[u];exact(x2v.1 x).1));obtain⟨a,z⟩:=LD (by kernel_rfl) (q 0 _ rfl);obtain⟨b,g⟩:=Ke (by kernel_rfl) (q 1 _ rfl);obtain⟨c,A⟩:=Ke (by kernel_rfl) (q 2 _ rfl);obtain⟨e,B⟩:=LD (by kernel_rfl) (q 3 _ rfl);have:=RepCs.step (o:=0) (k:=1) z (RepCs.step (o:=1) (k:=1) g (RepCs.step (o:=2) (k:=1) A (RepCs.step (o:=3) (k:=1) B (RepCs.fin l))));exact⟨⟨a,b,c,e⟩,RepCs.of_agg this⟩
end
theorem Bs{σ:Mem}{a:Param}{v:Value}(h:Rep σ (.agg a.cells) v):v=.agg #[.string ⟨a.name.toArray⟩,.bool a.ref]:=by
 cases h with
 | agg cs vs u t q r=>
   have x:vs.size=2:=t;have g0:vs[0]?=some (.string ⟨a.name.toArray⟩):=by
    have l:=q 0 (.str a.name) rfl;have m:=r 0 (.str a.name) rfl;generalize u 0=w at l m;cases m;exact l
   have g1:vs[1]?=some (.bool a.ref):=by
    have l:=q 1 (.bool a.ref) rfl;have m:=r 1 (.bool a.ref) rfl;generalize u 1=w at l m;cases m;exact l
   congr 1;apply Array.ext_getElem?;intro i
   match i with
   |0=>exact g0
   |1=>exact g1
   |i+2=>rw[x6y (by omega),x6y (by simp)]
instance:DecidableEq Param:=fun a b=>decidable_of_iff (a.name=b.name/\a.ref=b.ref) (by cases a;cases b;simp)
theorem ValO.B{C:Bool}{s:St}{o:Oper}{K:LV->Prop}{x y:Operand}{u:TypeId}(l:o.op=.binOp .eql 76 x y u){a b:Param}(E:QG s.sl x=.p (.agg a.cells))(F:QG s.sl y=.p (.agg b.cells))(c:K (.p (.bool (decide (a=b))))):ValO prog C s o K:=by
 refine⟨fun σ β q w r _=>⟨_,.bool (decide (a=b)),c,.p (.bool _),fun w' _ _=>?_⟩⟩;have v:q.eval x=.agg #[.string ⟨a.name.toArray⟩,.bool a.ref]:=by
  have:=QX r x;rw[E]at this;cases this with
  |p h=>exact Bs h
 have z:q.eval y=.agg #[.string ⟨b.name.toArray⟩,.bool b.ref]:=by
  have:=QX r y;rw[F]at this;cases this with
  |p h=>exact Bs h
 have D:prog.underlying 76=some (.struct (prog.fieldsOf 76)):=by kernel_rfl
 have m:prog.underlying 9=some .string:=by kernel_rfl
 have i:prog.underlying 4=some .bool:=by kernel_rfl
 have A:(prog.fieldsOf 76).toList=(match ty76.desc with |.struct fs=>fs.toList|_=>[]):=by kernel_rfl
 have g:(Op.equalIn 10000 76 (.agg #[.string ⟨a.name.toArray⟩,.bool a.ref]) (.agg #[.string ⟨b.name.toArray⟩,.bool b.ref])).run prog w'=.ok (decide (a=b)) w':=by
  rw[run_equalIn_struct w' 9999 _ _ _ D (by kernel_rfl),A];simp only[ty76,Op.eqFields];have G:∀(x:ByteArray)(y:Bool),(part 9 #[.string x,.bool y] 0).run prog w'=.ok (.string x) w':=fun x y=>run_part_plain w' (by kernel_rfl) rfl;have I:∀(x:ByteArray)(y:Bool),(part 4 #[.string x,.bool y] 1).run prog w'=.ok (.bool y) w':=fun x y=>run_part_plain w' (by kernel_rfl) rfl;have es:∀x y:ByteArray,(Op.equalIn 9999 9 (.string x) (.string y)).run prog w'=.ok (x.toList==y.toList) w':=fun x y=>run_equalIn_string (P:=prog) w' 9998 9 x y m;have t:∀x y:Bool,(Op.equalIn 9999 4 (.bool x) (.bool y)).run prog w'=.ok (x==y) w':=fun x y=>run_equalIn_bool (P:=prog) w' 9998 4 x y i;have e:decide (a=b)=(((⟨a.name.toArray⟩:ByteArray).toList==(⟨b.name.toArray⟩:ByteArray).toList)&&(a.ref==b.ref)):=by
   rw[ByteArray.toList_eq,ByteArray.toList_eq,x6d,x6x,x2z,x5p,x5p];cases a;cases b;simp
  simp only[ne_eq,show ¬("Name" = "_") by decide,show ¬("Ref" = "_") by decide,not_false_eq_true,if_true,Sem.run_bind,G,I,Result.andThen_ok,es,t,Sem.run_ite,Sem.run_pure,e];cases((⟨a.name.toArray⟩:ByteArray).toList==(⟨b.name.toArray⟩:ByteArray).toList)<;>cases(a.ref==b.ref)<;>simp
 simp only[execOp,l,v,z,Sem.run_bind,run_eqGuard_agg _ _ _ _ _ _ _ (show prog.eqGuardType prog.depth 76=false by kernel_rfl),Result.andThen_ok,run_eql_struct,g,Sem.run_pure]
theorem UY(l:List Param)(x:Param):SpecP prog 206 [.sl (l.map fun a=>.agg a.cells),.agg x.cells] (fun r=>∃k:Int,r=.int .i64 k/\(0<=k↔x∈l)):=by
 refine sC VX func206 ?_;conv=>whnf
 have u:(l.map fun a=>AV.agg a.cells).length=l.length:=x1j _;repeat' ((refine iM fun _=>?_)<;>conv=>whnf)
 refine lI (fun j:Nat=>⟨[(0,.p (.sl (l.map fun a=>.agg a.cells))),(3,.p (.ip x.cells)),(7,.p (.int .i64 (l.map fun a=>AV.agg a.cells).length)),(8,.j j)],[]⟩) (fun j=>j<=l.length/\x∉l.take j) (fun j=>l.length-j) 0 ⟨x1l _,by simp⟩ ?_;rintro j ⟨v,i⟩;rcases x1a j l.length with h|h
 ·have q:x∈l.take (j+1)↔x∈l.take j\/x=l[j]:=GP h;conv=>whnf
  repeat' ((first|refine dA ?_|(refine gX ?_;intros)|refine ValO.B (a:=x) (b:=l[j]) rfl rfl rfl ?_|(apply bD<;>intro _<;>try omega))<;>conv=>whnf)
  all_goals first
   | (have m:x=l[j]:=by assumption
      exact⟨_,.p (Sub.refl _),j,rfl,⟨fun _=>by rw[m];exact x1c h,fun _=>by omega⟩⟩)
   | (have m:¬x=l[j]:=by assumption
      exact nX (j+1) ⟨h,fun t=>(q.1 t).elim i m⟩)
 ·rw[x1i h]at i;conv=>whnf
  repeat' (apply bD<;>intro _<;>first|omega|conv=>whnf)
  all_goals exact⟨_,.p (Sub.refl _),-1,rfl,by simp[i]⟩
def WE(l:List Param)(x:Param):aP 162 [.sl (l.map fun a=>.agg a.cells),.agg x.cells] (.bool (decide (x∈l))):=by
 refine sC WJ func162 ?_;conv=>whnf
 have h:=UY l x;repeat' ((refine CallK.pure h (.cons (Sub.refl _) (.cons (Sub.refl _) .nil)) ?_;rintro _ ⟨k,rfl,i⟩)<;>conv=>whnf)
 all_goals first
  |exact RetK.bool (by rw[x6d,x6x,x6x];exact i)
def OZ{p:Pg}(h:QA p=true){f:Pr}(l:p.A[j]?=some f):∀s∈V0 (QQ p j f) f,okSt s:=fun s i=>by
 unfold V0 at i;rcases x1s.1 i with i|i
 .rcases x1s.1 i with i|i
  .exact Gc h l s i
  .rw [x1n.1 i];exact⟨by decide,by decide⟩
 .obtain ⟨q,m,i⟩:=x2p.1 i;exact Rg h l q m s i
theorem q7z{p:Pg}(h:QA p=true){f:Pr}(i:p.A[j]?=some f){m:Item}(r:m∈itsOf p j f):(sheetOf p).l[(m.s.id-1).toNat]?=some m:=by
 have x:=VT (QP h).1 i (MV r);obtain⟨u,q,t⟩:=LW i (k:=(m.s.id-1).toNat) (by omega) (by omega);have v:=RX h i (by omega) (by omega) q;rw[q,OP (QP h).1 i t r (by omega)]
def Ih{p:Pg}(h:QA p=true):∃(k:Nat) (f:Pr),p.A[k]?=some f/\p.A.filter (fun f=>f.name==mainS)=[f]/\f.name=mainS/\f.B=[]:=by
 obtain⟨F,C,_⟩:=QP h;obtain⟨_,q,_⟩:=JA C;unfold UX at q;simp only[x6b,Bool.not_eq_false']at q;obtain⟨_,z,b,u⟩:=q;have hnd:=On z;obtain⟨k,x,E,v⟩:=Ry b;have c:=x6e v;have y:p.A[k].name=mainS:=by
  have:mainS=p.A[k].name:=by simpa using c
  exact this.symm
 rw [v]at u;have e:p.A[k].B=[]:=x3j (by simpa using u);refine⟨k,p.A[k],x1k x,?_,y,e⟩;have key:∀(l:List Pr),(l.map Pr.name).Nodup->∀f∈l,f.name=mainS->l.filter (fun f=>f.name==mainS)=[f]:=fun l=>by
  induction l with
  |nil=>intro _ f m;cases m
  | cons g r D=>
    intro hnd f m i;rw[x2g,x3g]at hnd;rcases x1p.1 m with rfl|m
    .rw [x4p (by simp[i])];congr 1;rw[List.filter_eq_nil_iff];intro g d t;exact hnd.1 (by rw[i,<-show g.name=mainS by simpa using t];exact x5w d)
    .rw [x4c (by
      intro t;exact hnd.1 (by rw[show g.name=mainS by simpa using t,<-i];exact x5w m))]
     exact D hnd.2 f m i
 exact key p.A hnd _ (x1c x) y
section
variable {p:Pg}{k:Nat}{f:Pr}
end
theorem Kx:∀(l:List Pr){n:Nat}{m:Int},ZQ n l=some m->∀(j:Nat)(f:Pr),l[j]?=some f->∃i,JF 1 ((n+QT l j:Nat):Int) f.body=some i
 |[],_,_,_,j,f,hj=>by simp at hj
 | g::r,n,m,h,j,f,hj=>by
   rw[ZQ]at h;cases x:DA g<;>rw[x]at h
   ·cases h
   simp only[x2y]at h;split at h
   ·rename_i y q;cases j with
    | zero=>
      cases hj;exact⟨y,q⟩
    | succ j=>
      have u:=JC _ _ g.body q;have t:ZQ ((n+QJ g.body:Nat):Int) r=some m:=by rw[<-h,u];rfl
      obtain⟨i,v⟩:=Kx r t j f (by simpa using hj);exact⟨i,by rw[<-v,QT];congr 1;omega⟩
   ·cases h
theorem q2q{p:Pg}(h:DG p=true){f:Pr}(l:p.A[j]?=some f):∃m,JF 1 ((QT p.A j:Nat):Int) f.body=some m:=by
 unfold DG at h;simp only[x2z]at h;obtain⟨m,q⟩:=Option.isSome_iff_exists.1 h.2;obtain⟨r,i⟩:=Kx p.A (n:=0) q j f l;exact⟨r,by rw[<-i];congr 1;omega⟩
section
variable {p:Pg}{k:Nat}{f:Pr}
end
theorem FollowP.no{n:Nat}(h:FollowP n nx fm){a b:Nat}(y:b<n)(ha:Avd nx n b a):bitF fm a b=false:=by
 have r:∀c,n<=c->bitF fm c b=false:=fun c z=>by
  unfold bitF;rw[x1g (l:=fm),x3m (by rw[h.inv.len];exact z)];rfl
 have i:n-1≠b->bitF fm (n-1) b=false:=fun x=>by
  unfold bitF;rw[h.inv.last,Js y,x3w x,x3w (by omega)];rfl
 induction ha with
 |exit e=>exact i (x4s e)
 | @step a t m B _ C=>
   rcases Nat.lt_trichotomy a (n-1)with v|u|g
   ·have q:bitF fm a b=(rowF n nx fm a).getD b false:=by
     unfold bitF;rw[h.fix a v]
    rw[q,Ht y,x3w m];cases A:KY fm (nx.getD a []) b with
    |false=>rfl
    | true=>
      have:=DD.1 A _ B;rw[x3z,C]at this;cases this
   ·subst u;exact i m
   ·exact r a (by omega)
theorem FollowP.iff{n:Nat}(h:FollowP n nx fm){a b:Nat}(ha:a<n)(l:b<n):bitF fm a b=true ↔ ¬Avd nx n b a:=by
 constructor
 .intro i m;rw[h.no l m]at i;cases i
 .intro i;cases q:bitF fm a b with
  |true=>rfl
  |false=>exact absurd (h.inv.min a b ha l q) i
theorem EZ{n:Nat}{f g:List (List Bool)}(x:f.length=n)(y:g.length=n)(m:∀r∈f,r.length=n)(q:∀r∈g,r.length=n)(h:∀a b,a<n->b<n->bitF f a b=bitF g a b):f=g:=by
 refine List.ext_getElem (by omega) fun a ha i=>?_;have v:=m _ (x1c ha);have e2:=q _ (x1c i);refine List.ext_getElem (by omega) fun b t u=>?_;have:=h a b (by omega) (by omega);unfold bitF at this;rw[x1g (l:=f),x1g (l:=g),x1k ha,x1k i]at this;simp only[x2c]at this;rw[x1g,x1g,x1k t,x1k u]at this;exact this
theorem FollowP.uniq{n:Nat}{f g:List (List Bool)}(i:FollowP n nx f)(l:FollowP n nx g):f=g:=by
 refine EZ i.inv.len l.inv.len i.inv.rows l.inv.rows fun a b ha m=>?_;rw[x6d,i.iff ha m,l.iff ha m]
noncomputable def q6w(n:Nat)(nx:List (List Int)):List (List Bool):=@Classical.epsilon _ ⟨[]⟩ (FollowP n nx)
theorem FollowP.eq{n:Nat}(h:FollowP n nx fm):fm=q6w n nx:=h.uniq (Classical.epsilon_spec ⟨fm,h⟩)
theorem Dm:∀(l:List (Int×Int))(rows:List (List Int)),(∀t∈l,0<=t.1/\t.1<rows.length)->∀(a:Nat)(x:Int),x∈(l.foldl nxE rows).getD a []↔x∈rows.getD a []\/∃t∈l,t.1=a/\t.2=x
 |[],rows,_,a,x=>by simp
 | t::r,rows,h,a,x=>by
   obtain⟨y,z⟩:=h t x1f;rw[x4d,Dm r (nxE rows t) (fun u v=>by rw[CS];exact h u (x1d _ v))];have e:x∈(nxE rows t).getD a []↔x∈rows.getD a []\/(t.1=a/\t.2=x):=by
    unfold nxE;simp only[x1g,x7m];by_cases m:t.1.toNat=a
    ·subst m;have q:t.1=(t.1.toNat:Int):=by omega
     rw[if_pos rfl,if_pos (by omega)];simp only[x2c,x1s,x1n];constructor
     ·rintro(i|i)
      ·exact .inl i
      ·exact .inr ⟨q,i.symm⟩
     ·rintro(i|⟨_,i⟩)
      ·exact .inl i
      ·exact .inr i.symm
    ·rw[if_neg m];constructor
     ·exact .inl
     ·rintro(i|⟨i,_⟩)
      ·exact i
      ·omega
   rw[e];simp only[x1p,exists_eq_or_imp,or_assoc]
def Uf{n:Nat}{l:List (Int×Int)}(h:∀t∈l,0<=t.1/\t.1<n){a:Nat}{x:Int}:x∈(UG n l).getD a [] ↔ ∃t∈l,t.1=a/\t.2=x:=by
 unfold UG;rw[Dm l _ (by simpa using h)];have:(List.replicate n ([]:List Int)).getD a []=[]:=by
  rw[x1g,x2n];split<;>rfl
 rw[this];simp
mutual
theorem IA:∀(t:S){nest seen m:Int},P3 nest seen t=some m->∀u∈flS t,oneOk u=true
 | .mk id kind W name pr x has args V X,nest,seen,m,h,u,hu=>by
   obtain⟨h1,_,m1,h3,h4⟩:=Qc h;rw[flS]at hu;rcases x1p.1 hu with rfl|hu
   ·exact h1
   ·rcases x1s.1 hu with hu|hu
    ·exact W6 V h3 u hu
    ·exact W6 X h4 u hu
theorem W6:∀(l:List S){nest seen m:Int},JF nest seen l=some m->∀u∈flL l,oneOk u=true
 |[],_,_,_,_,u,hu=>by rw[flL]at hu;cases hu
 | t::r,nest,seen,m,h,u,hu=>by
   obtain⟨_,m1,h1,h2⟩:=DF h;rw[flL]at hu;rcases x1s.1 hu with hu|hu
   ·exact IA t h1 u hu
   ·exact W6 r h2 u hu
end
def EW{p:Pg}{f:Pr}(h:QA p=true)(i:p.A[j]?=some f){t:S}(q:t∈flL f.body):OneF t:=by
 obtain⟨m,l⟩:=q2q (QP h).1 i;exact CI (W6 _ l t q)
section
variable {p:Pg}{j:Nat}{f:Pr}
def q6z(p:Pg)(j:Nat)(f:Pr):Int->Int->Prop:=stR (Ty (QQ p j f) f)
theorem q0s(h:QA p=true)(q:p.A[j]?=some f):(Ty (QQ p j f) f).length<=200000:=by
 obtain⟨_,_,r⟩:=XK h;obtain⟨_,_,_,x,u⟩:=QU p;obtain⟨_,_,e,_⟩:=u j f q;obtain⟨y,z,_⟩:=KC (OZ h q);have b:=MP (l:=Ty (QQ p j f) f) (m:=((QQ p j f).real++(LC (QT p.A j) (QJ f.body)).map fun id=>⟨id,-1,3⟩)++[⟨0,-1,2⟩]++(itsOf p j f).flatMap fOf) (Ru y) fun s B=>by
  rcases x1s.1 (z s B)with i|i
  ·refine x1s.2 (.inl ?_);rcases x1s.1 i with i|i
   ·refine x1s.2 (.inl ?_);rcases x1s.1 i with i|i
    ·obtain⟨l,J,t,C,d,I,rfl⟩:=(DM h q).1 i;have v:=VT (QP h).1 q C;exact x1s.2 (.inr (x1r.2 ⟨t.id,La v.1 v.2,rfl⟩))
    ·exact x1s.2 (.inl i)
   ·exact x1s.2 (.inr i)
  ·exact x1s.2 (.inr i)
 have i:=Hn q r;have E:(LC (QT p.A j) (QJ f.body)).length=QJ f.body:=by unfold LC;simp
 have F:=XA (g:=fOf) (c:=1) (itsOf p j f) fun D _=>q1v D;have G:(itsOf p j f).length=QJ f.body:=XL _ _ _ _ _ _;simp only[x1h,x1j,x2k]at b;omega
theorem SZ(h:QA p=true)(y:p.A[j]?=some f){b:Int}:q6z p j f a b↔wR p j f a b\/(a=0/\b = -1)\/(∃l∈trapsW (QQ p j f) f,∃t∈flL f.body,t.id∈l/\t.kind=10/\a=t.id/\b = -1)\/∃u∈itsOf p j f,7<=u.s.kind/\a=u.s.id/\b=u.next:=by
 have g:=KC (OZ h y);have i:∀s,s∈V0 (QQ p j f) f↔s∈ZL (QQ p j f) f\/s∈(QQ p j f).real\/s=⟨0,-1,2⟩\/s∈(itsOf p j f).flatMap fOf:=fun s=>by
  have e:V0 (QQ p j f) f=ZL (QQ p j f) f++(QQ p j f).real++[⟨0,-1,2⟩]++(itsOf p j f).flatMap fOf:=rfl;rw[e];simp only[x1s,x1n,or_assoc]
 have r:∀s∈V0 (QQ p j f) f,q6z p j f s.src s.dst:=fun s m=>by
  obtain⟨s',q,B,C,_⟩:=g.2.2 s m;exact⟨s',q,B,C⟩
 constructor
 ·rintro⟨s,m,rfl,rfl⟩;rcases(i s).1 (g.2.1 s m)with q|q|q|q
  ·obtain⟨l,c,t,d,v,z,rfl⟩:=(DM h y).1 q;exact .inr (.inr (.inl ⟨l,c,t,d,v,z,rfl,rfl⟩))
  ·exact .inl ⟨s,q,rfl,rfl⟩
  ·rw[q];exact .inr (.inl ⟨rfl,rfl⟩)
  ·obtain⟨u,x,m⟩:=x2p.1 q;unfold fOf at m;split at m
   ·rw[x1n.1 m];exact .inr (.inr (.inr ⟨u,x,by omega,rfl,rfl⟩))
   ·cases m
 ·rintro(⟨s,m,rfl,rfl⟩|⟨rfl,rfl⟩|⟨l,c,t,d,v,z,rfl,rfl⟩|⟨u,x,z,rfl,rfl⟩)
  ·exact r s ((i s).2 (.inr (.inl m)))
  ·exact r ⟨0,-1,2⟩ ((i _).2 (.inr (.inr (.inl rfl))))
  ·exact r ⟨t.id,-1,3⟩ ((i _).2 (.inl ((DM h y).2 ⟨l,c,t,d,v,z,rfl⟩)))
  ·refine r ⟨u.s.id,u.next,2⟩ ((i _).2 (.inr (.inr (.inr (x2p.2 ⟨u,x,?_⟩)))));have D:=(EW h y (MV x)).hi;unfold fOf;rw[if_pos (by omega)];exact x1n.2 rfl
theorem q0p(h:QA p=true)(q:p.A[j]?=some f){b:Int}(g:q6z p j f a b):plP p j f a/\plP p j f b/\a ≠ -1/\b≠0:=by
 have m:∀t∈flL f.body,plP p j f t.id/\t.id ≠ -1:=fun t r=>by
  have z:=VT (QP h).1 q r;exact⟨.inr (.inr z),by omega⟩
 rcases(SZ h q).1 g with i|⟨rfl,rfl⟩|⟨l,C,t,r,c,d,rfl,rfl⟩|⟨D,u,d,rfl,rfl⟩
 ·obtain⟨x,y⟩:=q6q h q i;refine⟨x,y,?_,fun e=>Ia h q (e▸i)⟩;obtain⟨s,B,rfl,rfl⟩:=i;rcases IN h q (((MA h q).2 s).1 B)with v|v
  ·rw[v];show(0:Int) ≠ -1;decide
  ·omega
 ·exact⟨.inl rfl,.inr (.inl rfl),by decide,by decide⟩
 ·exact⟨(m t r).1,.inr (.inl rfl),(m t r).2,by decide⟩
 ·have i:=(U3 u).1;unfold okI at i;refine⟨(m _ (MV u)).1,?_,(m _ (MV u)).2,by omega⟩;rcases i with i|i
  ·exact .inr (.inl i)
  ·exact .inr (.inr i)
def IB:WY (QQ p j f) f=(Ty (QQ p j f) f).map (ixP p j f (QJ f.body+2:Nat)):=rfl
def q2h(h:QA p=true)(q:p.A[j]?=some f):∀t∈WY (QQ p j f) f,(0<=t.1/\t.1<(QJ f.body+2:Nat))/\0<=t.2/\t.2<(QJ f.body+2:Nat):=fun t i=>by
 rw[IB]at i;obtain⟨s,r,rfl⟩:=x1r.1 i;obtain⟨l,m,_⟩:=q0p h q ⟨s,r,rfl,rfl⟩;exact⟨KL l,KL m⟩
noncomputable def q4j(w:Way)(f:Pr)(n:Nat):List (Int×Int):=(List.range n).flatMap fun(x:Nat)=>((List.range n).filter fun y=>mkM n (q6w n (UG n (WY w f))) (WY w f) x y).map fun(y:Nat)=>(QD w.p w.j w.n x,QD w.p w.j w.n y)
def q1q{w:Way}{n:Nat}{M:List (List Bool)}(i:FollowP n (UG n (WY w f)) fm)(h:∀a b,a<n->b<n->bitF M a b=mkM n fm (WY w f) a b):A2 (QD w.p w.j w.n) M n n=q4j w f n:=by
 rw[i.eq]at h;unfold A2 q4j;have l:∀x∈List.range n,((List.range n).filter fun y=>bitF M x y).map (fun(y:Nat)=>(QD w.p w.j w.n x,QD w.p w.j w.n y))=((List.range n).filter fun y=>mkM n (q6w n (UG n (WY w f))) (WY w f) x y).map fun(y:Nat)=>(QD w.p w.j w.n x,QD w.p w.j w.n y):=fun x m=>by
  rw[x7n fun y q=>h x y (x3h.1 m) (x3h.1 q)]
 rw[List.flatMap_def,List.flatMap_def,x8u l]
def Lz(w:Way)(n:Nat):(q4j w f n).length<=n*n:=by
 unfold q4j;have h:=XA (g:=fun(x:Nat)=>((List.range n).filter fun y=>mkM n (q6w n (UG n (WY w f))) (WY w f) x y).map fun(y:Nat)=>(QD w.p w.j w.n x,QD w.p w.j w.n y)) (c:=n) (List.range n) fun x _=>by
  rw[x1j];exact x2m (x3a _ _) (by simp)
 rw[x3o]at h;exact h
end
namespace Own
end Own
open Go.Proofs
def rng(a b:Int)(v:Int):Prop:=a<=v/\v<=b
def q9s(l:List Int)(i:Nat):Int:=l.getD i 0
def srt(K:Int->Int)(l:List Int)(a b:Nat):Prop:=∀i k,a<=i->i<k->k<b->K (q9s l k)<=K (q9s l i)
def blk(K:Int->Int)(l:List Int)(bs n:Nat):Prop:=∀q,srt K l (q*bs) (min (q*bs+bs) n)
theorem CC:∀(l:List Pr)(j:Nat),QT l j<=cntP l
 |_,0=>by rw[QT];omega
 |[],j+1=>by rw[QT];omega
 |g::r,j+1=>by rw[QT,cntP];have:=CC r j;omega
section
variable {p:Pg}{j:Nat}{f:Pr}
end
section
variable {p:Pg}{j:Nat}{f:Pr}
end
structure Book where
 s:Sheet
 ways:List Way
 M:List (List Str)
 Y:List (List Str)
 ins:List (List Str)
 Z:List (List Str)
def Book.cells(b:Book):List AV:=[.ip b.s.cells,.sl (b.ways.map fun w=>.ip w.cells),.sl (b.M.map eStrs),.sl (b.Y.map eStrs),.sl (b.ins.map eStrs),.sl (b.Z.map eStrs)]
def GQ:Str:=[36,105,110]
def comB(p:Pg)(n:Str):Bool:=(n==GQ)||p.F.any fun s=>n==s
theorem YN(b:Book)(n:Str):aP 138 [.ip b.cells,.str n] (.bool (comB b.s.p n)):=by
 refine sC NQ func138 ?_;conv=>whnf
 repeat' ((first|refine cP (QZ _ _) ?_|(apply bB<;>intro _))<;>conv=>whnf)
 all_goals first
  | (have h:(n==GQ)=true:=by assumption
     exact RetK.tt (by unfold comB;rw[h];rfl))
  | (have h:(n==GQ)=false:=by assumption
     exact RetK.bool (by unfold comB;rw[h,Bool.false_or]))
theorem GA(p:Pg)(j:Nat)(f:Pr)(h:QA p=true)(r:p.A[j]?=some f)(id:Int)(i:plP p j f id):aP 110 [.ip (QQ p j f).cells,.int .i64 id] (.bool ((QQ p j f).live.getD (ixI p j f id).toNat false)):=by
 refine sC Wg func110 ?_;conv=>whnf
 have hT:=q0y h r;have l:=LL (QQ p j f) f hT.hj hT.hc (by have:=hT.hn2;have:=hT.hn;have:=hT.hw;omega) id;have m:KM (loI (QQ p j f).p (QQ p j f).j) (hiI (QQ p j f).p (QQ p j f).j f) (QQ p j f).n id=ixI p j f id:=rfl;rw[m]at l;have u:=KL i;have t:(QQ p j f).live.length=QJ f.body+2:=by show(LZ _ (List.replicate (QJ f.body+2) false)).length=_;rw[Qo];simp
 generalize ixI p j f id=ix at*
 have q:((QQ p j f).live.map bv)[ix.toNat]?=some (bv ((QQ p j f).live.getD ix.toNat false)):=by
  rw[x1b,x1g,x1k (by omega)];rfl
 generalize(QQ p j f).live.getD ix.toNat false=v at*
 cases v;all_goals
  repeat' ((first|refine dA ?_|refine cP l ?_|refine iT q ?_)<;>conv=>whnf)
 all_goals first
  |exact RetK.tt rfl
  |exact RetK.ff rfl
theorem Vr(l:List Str)(h:l.length<=1000000000):aH 104 [.hd 1000 0 l.length] [(1000,.own 9 1 (l.map .str))] (.hd 1000 0 (VW l).length) [(1000,.own 9 1 ((VW l).map .str))]:=by
 refine sK G5 func104 ?_;conv=>whnf
 repeat' ((first|(refine cH rH5 0 (VV l h) ?_)|(refine cH rH5 0 (KJ (UA l) (by rw[ZW];omega)) ?_ (ha:=(x2b (x6z (by rw[ZW];rfl)) x4v))))<;>conv=>whnf)
 all_goals first
  |exact x3e _ (x2u _) ⟨rfl,rfl⟩
def ZN(b:Book)(t:S):aP 136 [.ip b.cells,.agg t.cells] (.int .i64 (idxF (fun f=>f.name==t.C) b.s.p.A)):=by
 refine sC PO func136 ?_;conv=>whnf
 have h:=ZO b.s t.C;repeat' ((first|refine dA ?_|refine cP h ?_)<;>conv=>whnf)
 all_goals exact RetK.p rfl
def q6g(O:List Str)(x:Arg×Param):Bool:=x.1.ref&&inS O x.2.name
def A8(t:S)(f:Pr)(O:List Str)(j:Nat):List Str:=(((t.args.zip f.B).take j).filter (q6g O)).map fun x=>x.1.name
def q0c(p:Pg)(t:S)(f:Pr)(O:List Str):List Str:=(if t.name=[]then []else [t.name])++A8 t f O t.args.length++O.filter (comB p)
theorem Ri(t:S)(f:Pr)(O:List Str)(j:Nat):(A8 t f O j).length<=j:=by
 unfold A8;rw[x1j];exact x2m (x3a _ _) (by rw[x2d];omega)
theorem A9{t:S}{f:Pr}{O:List Str}(l:j<t.args.length)(m:j<f.B.length):A8 t f O (j+1)=A8 t f O j++(if t.args[j].ref=true/\inS O f.B[j].name=true then [t.args[j].name]else []):=by
 have i:j<(t.args.zip f.B).length:=by rw[List.length_zip];omega
 unfold A8;rw[x1t i,x3t,x1e];congr 1;have e:(t.args.zip f.B)[j]=(t.args[j],f.B[j]):=List.getElem_zip;rw[e];by_cases h:t.args[j].ref=true/\inS O f.B[j].name=true
 ·rw[if_pos h,x4p (by unfold q6g;simp[h])];rfl
 ·rw[if_neg h,x4c (by unfold q6g;simpa using h)];rfl
theorem Zj(b:Book)(t:S)(i:Nat)(f:Pr)(O:List Str)(hi:idxF (fun f=>f.name==t.C) b.s.p.A=i)(hf:b.s.p.A[i]?=some f)(V:b.Z[i]?=some O)(hs:O.Pairwise ltT)(hl:O.length<=1000000)(ha:t.args.length<=f.B.length)(hal:t.args.length<=1000000):SpecH prog 161 [.p (.ip b.cells),.p (.agg t.cells)] [] (fun r H=>OneRow (Yn (q0c b.s.p t f O)) False r H):=by
 refine sK NX func161 ?_;conv=>whnf
 have L:=ZN b t;rw[hi]at L;have hH:=fun x=>DY O x hs (by omega);have F:=fun x=>YN b x;have c:(b.Z.map eStrs)[i]?=some (eStrs O):=by rw[x1b,V];rfl
 have J:(b.s.p.A.map fun f=>AV.agg f.cells)[i]?=some (.agg f.cells):=by rw[x1b,hf];rfl
 have ham:(t.args.map fun a=>AV.agg a.cells).length=t.args.length:=x1j _;have Y:(O.map AV.str).length=O.length:=x1j _;repeat' ((first|(refine gX ?_;intros)|refine ZE (es:=[]) rfl (by simp) ?_|refine cP L ?_|(apply bN<;>intro _))<;>conv=>whnf)
 all_goals
  refine LoopK.inv XG (fun x:Nat×List Str=>⟨[(0,.p (.ip b.cells)),(5,.hd 0 0 x.2.length),(6,.j i),(23,.p (.sl (t.args.map fun a=>.agg a.cells))),(24,.p (.int .i64 (t.args.map fun a=>AV.agg a.cells).length)),(25,.j x.1)],[(0,.own 9 1 (x.2.map .str))]⟩) (fun x=>x.1<=t.args.length/\x.2=(if t.name=[]then []else [t.name])++A8 t f O x.1) (fun x=>t.args.length-x.1) (0,if t.name=[]then []else [t.name]) ?_ ⟨x1l _,by simp[A8]⟩ ?_
  ·first
    | (have l:(t.name==[])=true:=by assumption
       rw[if_pos (eq_of_beq l)];exact lM [(0,.own 9 1 [])])
    | (have l:(t.name==[])=false:=by assumption
       rw[if_neg (by simpa using l)];exact Le.of_eq rfl)
  rintro⟨j,h⟩ ⟨Q,v⟩;simp only at Q v⊢;have M:h.length<=j+1:=by
   rw[v,x1h];have:=Ri t f O j;split<;>simp<;>omega
  rcases x1a j t.args.length with e|e
  ·have g:j<f.B.length:=by omega
   have u:=A9 (O:=O) e g;have I:=hH f.B[j].name;have K:(f.B.map fun a=>AV.agg a.cells)[j]?=some (.agg f.B[j].cells):=by rw[x1b,x1k g];rfl
   conv=>whnf
   repeat' ((first|refine dA ?_|(refine gX ?_;intros)|refine iT c ?_|refine iT J ?_|refine iT K ?_|refine cP I ?_|refine ZE (by simp) (by rw[x1j];omega) ?_|((first|apply bD|apply bB)<;>intro _<;>try omega))<;>conv=>whnf)
   all_goals first
    | (have l:t.args[j].ref=true:=by assumption
       have m:inS O f.B[j].name=true:=by assumption
       exact⟨(j+1,h++[t.args[j].name]),⟨e,by simp only;rw[u,if_pos (show t.args[j].ref=true/\inS O f.B[j].name=true from⟨l,m⟩),v,x2w]⟩,by simp only;omega,Le.of_eq (by simp only[x1h,x1e];rfl)⟩)
    | (have m:inS O f.B[j].name=false:=by assumption
       exact nX (j+1,h) ⟨e,by simp only;rw[u,if_neg (show ¬(t.args[j].ref=true/\inS O f.B[j].name=true)from fun d=>by rw[m]at d;cases d.2),x2i];exact v⟩)
    | (have l:t.args[j].ref=false:=by assumption
       exact nX (j+1,h) ⟨e,by simp only;rw[u,if_neg (show ¬(t.args[j].ref=true/\inS O f.B[j].name=true)from fun d=>by rw[l]at d;cases d.1),x2i];exact v⟩)
  ·obtain rfl:j=t.args.length:=by omega
   conv=>whnf
   repeat' ((first|(refine iM fun _=>?_)|refine iT c ?_|(apply bD<;>intro _<;>try omega))<;>conv=>whnf)
   refine lI (fun x:Nat×List Str=>⟨[(0,.p (.ip b.cells)),(5,.hd 0 0 x.2.length),(70,.p (eStrs O)),(71,.p (.int .i64 (O.map AV.str).length)),(72,.j x.1)],[(0,.own 9 1 (x.2.map .str))]⟩) (fun x=>x.1<=O.length/\x.2=h++(O.take x.1).filter (comB b.s.p)/\x.2.length<=h.length+x.1) (fun x=>O.length-x.1) (0,h) ⟨x1l _,by simp,by simp⟩ ?_;rintro⟨q,o⟩ ⟨R,y,U⟩;simp only at R y U⊢;rcases x1a q O.length with E|E
   ·have D:=x1t E;have G:=F O[q];conv=>whnf
    repeat' ((first|(refine gX ?_;intros)|refine cP G ?_|refine ZE (by simp) (by rw[x1j];omega) ?_|((first|apply bD|apply bB)<;>intro _<;>try omega))<;>conv=>whnf)
    all_goals first
     | (have l:comB b.s.p O[q]=true:=by assumption
        exact⟨(q+1,o++[O[q]]),⟨E,by simp only;rw[D,x3t,x4p l,y,x2w];rfl,by simp;omega⟩,by simp only;omega,Le.of_eq (by simp only[x1h,x1e];rfl)⟩)
     | (have l:comB b.s.p O[q]=false:=by assumption
        exact nX (q+1,o) ⟨E,by simp only;rw[D,x3t,x4c (by rw[l];decide),y];simp,by simp only;omega⟩)
   ·rw[x1i E]at y;have z:o=q0c b.s.p t f O:=by rw[y,v];rfl
    subst z;conv=>whnf
    repeat' (apply bD<;>intro _<;>first|omega|conv=>whnf)
    all_goals exact x3e _ (x2u _) (OneRow.str rfl)
def retS:Str:=[36,114,101,116]
def caI(p:Pg)(t:S):Int:=idxF (fun f=>f.name==t.C) p.A
def caP(p:Pg)(t:S):Pr:=p.A.getD (caI p t).toNat Pr0
def caO(b:Book)(t:S):List Str:=b.Z.getD (caI b.s.p t).toNat []
def PR(b:Book)(t:S):List Str:=if t.kind=1 then [t.name]else if t.kind=2 then [t.name,GQ]else if t.kind=9 then [retS]else if t.kind=4 then q0c b.s.p t (caP b.s.p t) (caO b t)else []
structure CallOk(b:Book)(t:S):Prop where
 i0:0<=caI b.s.p t
 i1:(caI b.s.p t).toNat<b.s.p.A.length
 io:b.s.p.A.length<=b.Z.length
 rise:(caO b t).Pairwise ltT
 len:(caO b t).length<=1000000
 args:t.args.length<=(caP b.s.p t).B.length
 al:t.args.length<=1000000
theorem SN{b:Book}{t:S}(h:CallOk b t):SpecH prog 161 ([AV.ip b.cells,.agg t.cells].map .p) [] (OneRow (Yn (q0c b.s.p t (caP b.s.p t) (caO b t))) False):=by
 have i:=h.i1;have l:=h.io;refine Zj b t (caI b.s.p t).toNat (caP b.s.p t) (caO b t) ?_ ?_ ?_ h.rise h.len h.args h.al
 ·rw[x6l h.i0];rfl
 ·unfold caP;rw[x1g,x1k i];rfl
 ·unfold caO;rw[x1g,x1k (by omega)];rfl
theorem J1(b:Book)(t:S)(l:t.kind=4->CallOk b t):SpecH prog 105 [.p (.ip b.cells),.p (.agg t.cells)] [] (fun r H=>OneRow (Yn (PR b t)) (PR b t=[]) r H):=by
 refine sK Z7 func105 ?_;conv=>whnf
 have m:=fun h=>SN (l h);repeat' ((first|refine x2j rfl ?_|refine aD ?_|refine x6a (fun x i=>by rcases x1n.1 i with rfl;rfl) rfl ?_|refine x6a (fun x i=>by rcases x1p.1 i with rfl|i;rfl;rcases x1n.1 i with rfl;rfl) rfl ?_|(refine VU 0 rfl (m (by assumption)) (.cons (.p (Sub.refl _)) (.cons (.p (Sub.refl _)) .nil)) (fun h=>h.elim) ?_;rintro _ _ _ _ ⟨rfl,rfl,rfl⟩)|(apply bD<;>intro _<;>try omega))<;>conv=>whnf)
 ·rw[show PR b t=[t.name] by unfold PR;rw[if_pos (by assumption)]];exact x3e _ (x2u _) (UD (L:=[t.name]) rfl)
 ·rw[show PR b t=[t.name,GQ] by unfold PR;rw[if_neg (by assumption),if_pos (by assumption)]];exact x3e _ (x2u _) (UD (L:=[t.name,GQ]) rfl)
 ·rw[show PR b t=[retS] by unfold PR;rw[if_neg (by assumption),if_neg (by assumption),if_pos (by assumption)]];exact x3e _ (x2u _) (UD (L:=[retS]) rfl)
 ·rw[show PR b t=q0c b.s.p t (caP b.s.p t) (caO b t) by unfold PR;rw[if_neg (by assumption),if_neg (by assumption),if_neg (by assumption),if_pos (by assumption)]];exact x3e _ (x2u _) (UD (by rw[x1j]))
 ·exact x3e _ (x2u _) (.inl ⟨rfl,rfl,by unfold PR;rw[if_neg (by assumption),if_neg (by assumption),if_neg (by assumption),if_neg (by assumption)]⟩)
def outB(p:Pg)(f:Pr)(n:Str):Bool:=comB p n||decide ((⟨n,true⟩:Param)∈f.B)
def Qu(D:List (List Str))(id:Int):List Str:=D.getD (id-1).toNat []
def q5u(p:Pg)(i:Nat)(f:Pr)(D:List (List Str))(h:Item):List Str:=bif (QQ p i f).live.getD (ixI p i f h.s.id).toNat false then(Qu D h.s.id).filter (outB p f)else []
def Po(p:Pg)(i:Nat)(f:Pr)(D:List (List Str))(h:List Item):List Str:=h.flatMap (q5u p i f D)
def A1{p:Pg}{i:Nat}{f:Pr}{D:List (List Str)}{h:List Item}{k:Nat}(l:k<h.length):Po p i f D (h.take (k+1))=Po p i f D (h.take k)++q5u p i f D h[k]:=by
 unfold Po;rw[x1t l,x3i];simp
def Rf{p:Pg}{i:Nat}{f:Pr}{D:List (List Str)}(q:∀d∈D,d.length<=1000)(l:List Item):(Po p i f D l).length<=l.length*1000:=by
 refine XA l fun m _=>?_;unfold q5u;cases(QQ p i f).live.getD (ixI p i f m.s.id).toNat false with
 |false=>exact x1l _
 | true=>
   refine x2m (x3a _ _) ?_;unfold Qu;rcases x1a (m.s.id-1).toNat D.length with h|h
   .rw [x1g,x1k h];exact q _ (x1c h)
   .rw [x1g,x3m h];exact x1l _
theorem J2(b:Book)(p:Pg)(hp:b.s=sheetOf p)(h:QA p=true)(i:Nat)(f:Pr)(G:p.A[i]?=some f)(hW:b.ways[i]?=some (QQ p i f))(hD:b.M.length=(sheetOf p).l.length)(Z:∀d∈b.M,d.length<=1000):SpecH prog 106 [.p (.ip b.cells),.j i] [] (fun r H=>OneRow (Yn (Po p i f b.M (itsOf p i f))) False r H):=by
 refine sK Z8 func106 ?_;conv=>whnf
 obtain⟨U,_,_,hlen,hs⟩:=QU p;obtain⟨s1,s2,s3,s4⟩:=hs i f G;have hcn:=(XK h).2.2;have K:=NO (sheetOf p) i (QT p.A i) (QT p.A i+QJ f.body) s1 s2 (by omega) (by omega) (by omega);rw[s4]at K;have V:itL (i:Nat) 0 (-1) 0 (QT p.A i) f.body=itsOf p i f:=rfl;rw[V,<-hp]at K;have F:b.s.p=p:=by rw[hp,U]
 have g:=fun x=>YN b x;rw[F]at g;have L:(b.s.p.A.map fun f=>AV.agg f.cells)[i]?=some (.agg f.cells):=by rw[F,x1b,G];rfl
 have O:(b.ways.map fun w=>AV.ip w.cells)[i]?=some (.ip (QQ p i f).cells):=by rw[x1b,hW];rfl
 have hIl:((itsOf p i f).map fun i=>AV.agg i.cells).length=(itsOf p i f).length:=x1j _;have hil:(itsOf p i f).length<=200:=by
  have Y:=x4w List.length s4;rw[V,x4z,x2d]at Y;omega
 have E:∀k,(Po p i f b.M ((itsOf p i f).take k)).length<=200*1000:=fun k=>by
  have Y:=Rf (p:=p) (i:=i) (f:=f) Z ((itsOf p i f).take k);have h2:((itsOf p i f).take k).length*1000<=200*1000:=x2e _ (by rw[x2d];omega);omega
 repeat' ((first|(refine iM fun _=>?_)|refine x2j rfl ?_|refine iT L ?_|refine cP K ?_)<;>conv=>whnf)
 refine lJ (fun k:Nat=>⟨[(0,.p (.ip b.cells)),(1,.j i),(5,.hd 0 0 (Po p i f b.M ((itsOf p i f).take k)).length),(6,.p (.ip f.cells)),(27,.p (ZP (itsOf p i f))),(28,.p (.int .i64 ((itsOf p i f).map fun i=>AV.agg i.cells).length)),(29,.j k)],[(0,.own 9 1 ((Po p i f b.M ((itsOf p i f).take k)).map .str))]⟩) (fun k=>k<=(itsOf p i f).length) (fun k=>(itsOf p i f).length-k) 0 (lM [(0,.own 9 1 [])]) (x1l _) ?_;intro k hk;have hak:=E k;rcases x1a k (itsOf p i f).length with m|m;rotate_left 1
 ·rw[x1i m];conv=>whnf
  repeat' (apply bD<;>intro _<;>first|omega|conv=>whnf)
  all_goals exact x3e _ (x2u _) (OneRow.str rfl)
 have u:=A1 (p:=p) (i:=i) (f:=f) (D:=b.M) m;have hb:=VT (QP h).1 G (MV (x1c m));have J:=GA p i f h G (itsOf p i f)[k].s.id (.inr (.inr hb));have R:q5u p i f b.M (itsOf p i f)[k]=bif (QQ p i f).live.getD (ixI p i f (itsOf p i f)[k].s.id).toNat false then(Qu b.M (itsOf p i f)[k].s.id).filter (outB p f)else []:=rfl;have v:((itsOf p i f)[k].s.id-1).toNat<b.M.length:=by omega
 have Q:(b.M.map eStrs)[((itsOf p i f)[k].s.id-1).toNat]?=some (eStrs (Qu b.M (itsOf p i f)[k].s.id)):=by
  unfold Qu;rw[x1b,x1g,x1k v];rfl
 have hDl:(Qu b.M (itsOf p i f)[k].s.id).length<=1000:=by
  unfold Qu;rw[x1g,x1k v];exact Z _ (x1c v)
 generalize(QQ p i f).live.getD (ixI p i f (itsOf p i f)[k].s.id).toNat false=lv at*
 rw[R]at u;generalize Qu b.M (itsOf p i f)[k].s.id=D at*
 generalize Po p i f b.M ((itsOf p i f).take k)=acc at*
 have hDm:(D.map AV.str).length=D.length:=x1j _;cases lv;all_goals
  conv=>whnf
  repeat' ((first|(refine gX ?_;intros)|refine dA ?_|refine iT O ?_|refine cP J ?_|refine iT Q ?_|((first|apply bD|apply bN)<;>intro _<;>try omega))<;>conv=>whnf)
 all_goals first
  |contradiction
  |exact⟨k+1,m,by omega,Le.of_eq (by rw[u,x2f,x2i];rfl)⟩
  |skip
 all_goals
  rw[x2y]at u;refine lI (fun x:Nat×List Str=>⟨[(0,.p (.ip b.cells)),(1,.j i),(5,.hd 0 0 x.2.length),(6,.p (.ip f.cells)),(27,.p (ZP (itsOf p i f))),(28,.p (.int .i64 ((itsOf p i f).map fun i=>AV.agg i.cells).length)),(29,.j k),(54,.p (eStrs D)),(55,.p (.int .i64 (D.map AV.str).length)),(56,.j x.1)],[(0,.own 9 1 (x.2.map .str))]⟩) (fun x=>x.1<=D.length/\x.2=acc++(D.take x.1).filter (outB p f)/\x.2.length<=acc.length+x.1) (fun x=>D.length-x.1) (0,acc) ⟨x1l _,by simp,by simp⟩ ?_;rintro⟨q,o⟩ ⟨h4,z,h6⟩;simp only at h4 z h6⊢;rcases x1a q D.length with c|c
  ·have y:=x1t c;have I:=g D[q];have C:=WE f.B ⟨D[q],true⟩;have t:outB p f D[q]=(comB p D[q]||decide ((⟨D[q],true⟩:Param)∈f.B)):=rfl;generalize hdc:decide ((⟨D[q],true⟩:Param)∈f.B)=dc at C t;conv=>whnf
   repeat' ((first|(refine gX ?_;intros)|refine cP I ?_|refine cP C ?_ (ha:=.cons (Sub.refl _) (.cons (Sub.agg (.cons (Sub.refl _) (.cons (Sub.tt rfl) .nil))) .nil))|refine ZE (by simp) (by rw[x1j];omega) ?_|((first|apply bD|apply bB)<;>intro _<;>try omega))<;>conv=>whnf)
   all_goals first
    | (have e:outB p f D[q]=true:=by rw[t,show comB p D[q]=true by assumption];rfl
       exact⟨(q+1,o++[D[q]]),⟨c,by simp only;rw[y,x3t,x4p e,z,x2w];rfl,by simp;omega⟩,by simp only;omega,Le.of_eq (by simp only[x1h,x1e];rfl)⟩)
    | (have e:outB p f D[q]=true:=by rw[t,show dc=true by assumption,Bool.or_true]
       exact⟨(q+1,o++[D[q]]),⟨c,by simp only;rw[y,x3t,x4p e,z,x2w];rfl,by simp;omega⟩,by simp only;omega,Le.of_eq (by simp only[x1h,x1e];rfl)⟩)
    | (have e:outB p f D[q]=false:=by rw[t,show comB p D[q]=false by assumption,show dc=false by assumption];rfl
       exact nX (q+1,o) ⟨c,by simp only;rw[y,x3t,x4c (by rw[e];decide),z];simp,by simp only;omega⟩)
  ·rw[x1i c,<-u]at z;subst z;conv=>whnf
   repeat' ((first|refine wI ?_|(apply bD<;>intro _<;>try omega))<;>conv=>whnf)
   all_goals exact nX (k+1) m
theorem CL(x:X):SpecH prog 163 ([AV.agg x.cells].map .p) [] (OneRow (Yn (XB x)) (XB x=[])):=by
 refine sK Xu func163 ?_;conv=>whnf
 repeat' ((first|refine cP (FT _) ?_|(apply bN<;>intro _))<;>conv=>whnf)
 ·refine CallK.nil 5 9 1 rfl (.cons rfl (.row .nil)) ?_;refine cJ [(2000,5)] 0 (Y9 20 (by omega) x (by assumption) [] (by simp)) ?_;rintro l' H' ⟨rfl,rfl⟩;conv=>whnf
  have e:XB x=Dt x []:=by
   unfold XB;rw[show Ej x=true by assumption];rfl
  rw[e];exact x3e _ (x2u _) (BM rfl)
 ·have e:XB x=[]:=by
   unfold XB;rw[show Ej x=false by assumption];rfl
  exact x3e _ (x2u _) (.inl ⟨rfl,rfl,e⟩)
def usA(a:Arg):List Str:=(if a.ref=true then [a.name]else [])++XB a.x
def inAt(b:Book)(t:S):List Str:=b.ins.getD (caI b.s.p t).toNat []
def Sn(t:S):List Str:=XB t.x++(if t.kind=2 then [GQ]else [])
def LP(b:Book)(t:S):List Str:=if t.kind=4 then Sn t++t.args.flatMap usA++inAt b t else Sn t
theorem E0(a:Arg):(usA a).length<=1048577:=by
 have:=VG a.x;unfold usA;rw[x1h];split<;>simp<;>omega
theorem RP(t:S):(Sn t).length<=1048577:=by
 have:=VG t.x;unfold Sn;rw[x1h];split<;>simp<;>omega
def Sh(t:S)(j:Nat):List Str:=Sn t++(t.args.take j).flatMap usA
theorem Em(t:S)(ha:t.args.length<=21000):(Sh t j).length<=23000000000:=by
 have h:=RP t;have i:=XM E0 (t.args.take j);have l:(t.args.take j).length*1048577<=21000*1048577:=x2e _ (by simp;omega);unfold Sh;simp only[x1h];omega
def SV{t:S}(h:j<t.args.length):Sh t (j+1)=Sh t j++usA t.args[j]:=by
 unfold Sh;rw[x1t h,x3i,x2w];simp
theorem OneRow.es{L:List Str}{es:List AV}{n:Nat}{nil:Prop}(i:es=L.map .str)(h:n=L.length):OneRow (Yn L) nil (.hd 0 0 n) [(0,.own 9 1 es)]:=by
 subst i;exact UD h
structure UseOk(b:Book)(t:S):Prop where
 i0:0<=caI b.s.p t
 ii:(caI b.s.p t).toNat<b.ins.length
 al:t.args.length<=21000
 len:(inAt b t).length<=1000000
theorem J3(b:Book)(t:S)(D:t.kind=4->UseOk b t):SpecH prog 108 [.p (.ip b.cells),.p (.agg t.cells)] [] (fun r H=>OneRow (Yn (LP b t)) (LP b t=[]) r H):=by
 refine sK Z9 func108 ?_;conv=>whnf
 have F:=CL t.x;have g:=ZN b t;have E:idxF (fun f=>f.name==t.C) b.s.p.A=caI b.s.p t:=rfl;rw[E]at g;have M:=VG t.x;conv=>whnf
 refine VU 0 rfl F (.cons (.p (Sub.refl _)) .nil) (fun l=>?_) (fun q e sz es G=>?_);rotate_left;obtain⟨rfl,rfl,rfl⟩:=G
 rotate_right
 all_goals
  conv=>whnf
  repeat' ((first|(refine gX ?_;intros)|refine ZE (es:=[]) rfl (by simp) ?_|refine pS ?_|((first|apply bD|apply bE)<;>intro _<;>try omega))<;>conv=>whnf)
 ·have e:LP b t=[GQ]:=by unfold LP Sn;rw[if_neg (by assumption),if_pos (by assumption),l];rfl
  rw[e];exact x3e _ (x2u _) (UD (L:=[GQ]) rfl)
 rotate_left
 ·have e:LP b t=[]:=by unfold LP Sn;rw[if_neg (by assumption),if_neg (by assumption),l];rfl
  exact x3e _ (x2u _) (.inl ⟨rfl,rfl,e⟩)
 ·have e:LP b t=XB t.x++[GQ]:=by unfold LP Sn;rw[if_neg (by assumption),if_pos (by assumption)]
  rw[e];exact x3e _ (x2u _) (OneRow.es (by rw[x1e];rfl) (by simp))
 rotate_left
 ·have e:LP b t=XB t.x:=by unfold LP Sn;rw[if_neg (by assumption),if_neg (by assumption),x2i]
  rw[e];exact x3e _ (x2u _) (OneRow.es rfl (by simp))
 all_goals
  have u:t.kind=4:=by assumption
  have y:=D u;have d:Sh t 0=XB t.x:=by unfold Sh Sn;rw[if_neg (by omega),List.take_zero,List.flatMap_nil,x2i,x2i]
  have Q:(t.args.map fun a=>AV.agg a.cells).length=t.args.length:=x1j _;have I:(b.ins.map eStrs)[(caI b.s.p t).toNat]?=some (eStrs (inAt b t)):=by
   unfold inAt;rw[x1b,x1g,x1k y.ii];rfl
  have hi0:=y.i0;have J:=y.len;have z:=y.al;refine LoopK.inv XG (fun j:Nat=>⟨[(0,.p (.ip b.cells)),(3,.p (.ip t.cells)),(5,.hd 0 0 (Sh t j).length),(22,.p (.sl (t.args.map fun a=>.agg a.cells))),(23,.p (.int .i64 (t.args.map fun a=>AV.agg a.cells).length)),(24,.j j)],[(0,.own 9 1 ((Sh t j).map .str))]⟩) (fun j=>j<=t.args.length) (fun j=>t.args.length-j) 0 ?_ (x1l _) ?_
  ·first
    | (rw[d,l]
       exact lM [(0,.own 9 1 [])])
    | (rw[d]
       exact Le.of_eq (by rw[x1j];rfl))
  intro j O;have B:=Em t (j:=j) z;have m:t.args.length<=j->LP b t=Sh t j++inAt b t:=fun h=>by
   unfold LP Sh;rw[if_pos u,x1i h]
  have v:=fun h=>SV (t:=t) (j:=j) h;generalize Sh t j=acc at*
  rcases x1a j t.args.length with i|i
  ·have K:=VG t.args[j].x;conv=>whnf
   repeat' ((first|refine cP (DP _) ?_|(refine gX ?_;intros)|refine HK _ (by simp) (by simp;omega) ?_|refine pS ?_|((first|apply bD|apply bB)<;>intro _<;>try omega))<;>conv=>whnf)
   all_goals
    refine⟨j+1,i,by omega,Le.of_eq ?_⟩;first
     | (have c:usA t.args[j]=[t.args[j].name]++XB t.args[j].x:=by rw[usA,if_pos (by assumption)]
        rw[v i,c];simp only[x1h,x1e,x1j,<-x2w,<-x5d];rfl)
     | (have c:usA t.args[j]=XB t.args[j].x:=by rw[usA,if_neg (by rw[show t.args[j].ref=false by assumption];decide)];rfl
        rw[v i,c];simp only[x1h,x1e,x1j];rfl)
  ·rw[m i];conv=>whnf
   repeat' ((first|refine dA ?_|refine aD ?_|refine cP g ?_|refine iT I ?_|refine HK _ (by simp) (by simp;omega) ?_|(apply bD<;>intro _<;>try omega))<;>conv=>whnf)
   all_goals exact x3e _ (x2u _) (OneRow.es (by rw[x1e]) (by simp))
def KU(w:Way)(f:Pr):List (Int×Int):=(NS w f).map (ixP w.p w.j f w.n)
theorem Mt(w:Way)(f:Pr)(n:Nat)(h:WayT w f n)(E:∀t∈KU w f,(0<=t.1/\t.1<n)/\0<=t.2/\t.2<n)(l:(NS w f).length<=1000000):aP 164 [.ip w.cells] (eMat (UG n (KU w f))):=by
 refine sC Gy func164 ?_;conv=>whnf
 have G:=h.hw;have D:=h.hn;have C:=h.hn2;have A:=Z4 w f n h;have e:=WF w f h.hj h.hc (by omega) (NS w f) l;have F:(avP (KU w f)).length=(KU w f).length:=by unfold avP;rw[x1j]
 have g:(KU w f).length<=1000000:=by unfold KU;rw[x1j];exact l
 have b:(NS w f).map (ixP w.p w.j f w.n)=KU w f:=rfl;rw[b]at e;repeat' ((first|(refine gX ?_;intros)|refine x5i n (by omega) (by show 24*_<=140737488355328;omega) (by unfold maxLen;omega) ?_|refine cP A ?_|refine cP e ?_)<;>conv=>whnf)
 refine lJ (fun j:Nat=>⟨[(3,.hd 0 0 n),(14,.p (.sl (avP (KU w f)))),(15,.p (.int .i64 (avP (KU w f)).length)),(16,.j j)],[(0,.ext (.mat 56 3 1 (avI (UG n ((KU w f).take j))) []))]⟩) (fun j=>j<=(KU w f).length) (fun j=>(KU w f).length-j) 0 (by
   refine Le.trans (Bz n rfl) ?_;exact lE (hH:=.cons rfl (.of_eq (by simp[avI,UG])) .nil)) (x1l _) ?_
 intro j O;rcases x1a j (KU w f).length with v|v
 ·have r:(avP (KU w f))[j]?=some (.agg [.int .i64 (KU w f)[j].1,.int .i64 (KU w f)[j].2]):=by simp[avP,v]
  obtain⟨⟨J,K⟩,L,M⟩:=E _ (x1c v);have u:UG n ((KU w f).take (j+1))=nxE (UG n ((KU w f).take j)) (KU w f)[j]:=by
   unfold UG;rw[x1t v,x5v];rfl
  have d:=FV n ((KU w f).take j);have i:=MB n ((KU w f).take j) (KU w f)[j].1.toNat;generalize(KU w f)[j]=t at r J K L M u i;generalize UG n ((KU w f).take j)=rows at u d i⊢;obtain⟨a,ha⟩ : ∃a:Nat,t.1=a:=⟨t.1.toNat,by omega⟩;have q:a<rows.length:=by omega
  have m:(avI rows)[a]?=some (rows[a].map (.int .i64)):=by unfold avI;rw[x1b,x1k q];rfl
  have y:(avI rows).set a (rows[a].map (.int .i64)++[.int .i64 t.2])=avI (nxE rows t):=by
   unfold nxE avI;rw[ha,x3z,x1g,x1k q,x2c,x2s,x1e];rfl
  have B:rows[a].length<=1000000:=by
   rw[ha,x3z,x1g,x1k q,x2c,x2d]at i;omega
  rw[ha]at r;conv=>whnf
  repeat' ((first|refine x2j rfl ?_|refine aD ?_|refine wI ?_|refine DrawK.of XG mixed (.cons 0 false (.cons 1 false (.cons 2 false (.cons 3 false (.cons 4 false (.cons 5 false (.cons 6 false (.cons 8 false (.cons 9 false (.alo 7 (.cons 10 true (.cons 11 true (.cons 12 true (.cons 13 true .nil)))))))))))))) (by kernel_rfl) ?_|refine iT r ?_|refine x3c 0 rfl (by decide) ?_|refine x3c 1 rfl (by decide) ?_|refine iO a ?_|refine x6w a _ (by omega) m (by simp) ?_|refine x6a (fun x I=>by rcases x1n.1 I with rfl;rfl) rfl ?_|refine OpK.focus XG 27 0 a 2 rfl rfl m (by simp) rfl rfl ?_|refine PT rfl (by rw[x1j];omega) ?_|(refine ZB XG rfl rfl rfl rfl rfl rfl rfl rfl rfl (by decide) a [] (by omega) (by unfold avI;rw[x1j];omega) (by simp) ⟨by simp,by simp,by simp⟩ ?_)|(apply bD<;>intro _<;>try omega))<;>conv=>whnf)
  all_goals exact⟨j+1,v,by omega,Le.of_eq (by rw[u,<-y];rfl)⟩
 ·have c:(KU w f).take j=KU w f:=x1i v;rw[c];have z:=FV n (KU w f);conv=>whnf
  repeat' (apply bD<;>intro _<;>first|omega|conv=>whnf)
  exact⟨_,.mat rfl (by unfold avI;rw[x1j,z]),rfl⟩
section
variable {p:Pg}{j:Nat}{f:Pr}
def dR(p:Pg)(j:Nat)(f:Pr):Int->Int->Prop:=stR (NS (QQ p j f) f)
def q4y(h:QA p=true)(m:p.A[j]?=some f){b:Int}:dR p j f a b↔wR p j f a b\/∃l∈trapsW (QQ p j f) f,∃t∈flL f.body,t.id∈l/\t.kind=10/\a=t.id/\b = -1:=by
 constructor
 .rintro ⟨s,v,rfl,rfl⟩;rcases x1s.1 ((KC (Gc h m)).2.1 s v)with q|q
  .obtain ⟨l,u,t,x,i,r,rfl⟩:=(DM h m).1 q;exact .inr ⟨l,u,t,x,i,r,rfl,rfl⟩
  .exact .inl ⟨s,q,rfl,rfl⟩
 .rintro (⟨s,v,rfl,rfl⟩|⟨l,u,t,x,i,r,rfl,rfl⟩)
  .exact SS h m (x1s.2 (.inr v))
  .exact SS h m (s:=⟨t.id,-1,3⟩) (x1s.2 (.inl ((DM h m).2 ⟨l,u,t,x,i,r,rfl⟩)))
def q6m(h:QA p=true)(i:p.A[j]?=some f){b:Int}(q:dR p j f a b):plP p j f a/\plP p j f b:=by
 have m:q6z p j f a b:=by
  rcases(q4y h i).1 q with l|l
  .exact (SZ h i).2 (.inl l)
  .exact (SZ h i).2 (.inr (.inr (.inl l)))
 exact⟨(q0p h i m).1,(q0p h i m).2.1⟩
def GM(h:QA p=true)(m:p.A[j]?=some f):∀t∈KU (QQ p j f) f,(0<=t.1/\t.1<(QJ f.body+2:Nat))/\0<=t.2/\t.2<(QJ f.body+2:Nat):=fun t r=>by
 obtain⟨s,q,rfl⟩:=x1r.1 r;obtain⟨i,l⟩:=q6m h m ⟨s,q,rfl,rfl⟩;exact⟨KL i,KL l⟩
end


section
variable {p:Pg}{j:Nat}{f:Pr}
end
theorem SH{p:Pg}(u:(XQ p).1=0):(YQ p).1=0 ↔ ∀t∈VL p,t.kind=4->HR p t=true:=by
 unfold YQ;rw[if_neg (by omega)];cases l:(VL p).find? fun t=>decide (t.kind=4) && !HR p t with
 | some t=>
   have m:=x5e l;have i:=x6e l;simp only[x2z,x3u,x4e]at i;refine⟨fun h=>by simp at h,fun h=>?_⟩;have:=h t m i.1;rw[i.2]at this;cases this
 | none=>
   refine⟨fun _ t r q=>?_,fun _=>rfl⟩;have:=x7k.1 l t r;simp only[x2z,x3u,x4e,not_and]at this;simpa using this q
def pureL:LV->LV
 |.p a=>.p a
 |_=>.p .any
def TB:List (Nat×LV)->List (Nat×LV)
 |[]=>[]
 |(j,l)::r=>(j,pureL l)::TB r
theorem Bi:∀(sl:List (Nat×LV))(i:Nat),getS (TB sl) i=pureL (getS sl i)
 |[],i=>rfl
 | (j,l)::r,i=>by
   rw[TB,getS,getS];cases j==i with
   |true=>rfl
   |false=>exact Bi r i
def FE{P:Program}{N:Nat}{g:FuncId}{args:List LV}{r:Option Nat}{s:St}{K:St->Prop}{avs:List AV}{R:AV->Prop}(L:SpecP P g avs R)(ha:FrzL s.H args avs)(h:∀c,R c->setD N (TB s.sl) r (.p c) fun sl=>K ⟨sl,[]⟩):CallK P N g args r s K:=by
 refine⟨fun σ β a w C m hn hv=>⟨L.go m,?_⟩⟩;obtain⟨y,t⟩:=ha.get;obtain⟨τ,J,O,Q,U⟩:=MQ C.heap;refine(L.ok τ w m (hn.trans y) (fun j c G=>?_) O).mono fun e w' ⟨c,u,σ',he,Y,A,v,hl,q,z⟩=>?_
 .obtain ⟨l,D,B⟩:=t j c G;exact U l _ c (hv j l D) B
 .have I:Rel N σ' β ⟨TB s.sl,[]⟩ a w':=⟨C.size,C.defers,fun i=>by
   show RepL σ' β (getS (TB s.sl) i) _;rw[Bi];have:=C.E i;generalize getS s.sl i=l at this⊢;cases l with
   |p x=>exact this.mono (Mem.le_trans J v)
   |_=>exact .p (.any _),⟨hl,fun k c h=>(by cases h),x8d,fun k h=>(by cases h),fun k h=>(by cases h)⟩⟩
  obtain⟨sl,V,d⟩:=I.setD (.p A) (h c Y);refine⟨u,σ',β,_,he,V,d,Mem.le_trans J v,⟨q.os,q.tape,q.output,q.drawn,q.size,fun b Z _=>q.block b Z id⟩,fun b M D=>?_,fun b ⟨j,G,_⟩=>(by cases G),fun _ _ _=>rfl⟩;by_cases B:τ b=none
  .exact .inr (z b B D)
  .rcases Q b B with F|F
   .exact absurd M F
   .exact .inl F
section
variable {p:Pg}{j:Nat}{f:Pr}{n:Str}
end
section
variable {p:Pg}{j:Nat}{f:Pr}
end
section
variable {p:Pg}{j:Nat}{f:Pr}
end
end Go.Ab
