/- The library's contracts at this seat's program, in plain words (printed by the kit's lay-plain.mjs). Conditions: none. -/
import Derived.Shelf.SlSortCmp.NoneTotal
import Derived.Ground.SlsfProg
import Derived.Test.YtgpjfppgphaobaaGreatProJ11
set_option linter.all false
set_option maxRecDepth 100000
set_option maxHeartbeats 16000000
open Nat (mod_lt)
namespace Go.Proofs
open Go.Shelf Tryz
def Tryz.laysF_ren:Go.Shelf.Ren:=⟨fun|6=>226|15=>150|14=>258|28=>200|29=>201|20=>275|21=>276|22=>277|23=>278|24=>279|25=>280|26=>281|27=>282|46=>289|47=>245|48=>246|49=>290|50=>291|57=>293|n=>n,fun|22=>100|24=>225|25=>268|3=>3|39=>210|0=>0|53=>249|55=>251|4=>4|46=>242|45=>241|50=>90|5=>5|9=>9|66=>281|70=>285|76=>303|77=>304|n=>n,fun|n=>n⟩
theorem kT11{α:Type}{x:Option α}{a b:α}(h:x=some a)(e:a=b:=by kernel_rfl):x=some b:=e▸h
def CU:Go.Proofs.SlLaysF0.n6 Tryz.prog Tryz.laysF_ren:=⟨by kernel_rfl,⟨f226.name,by decide,kT11 func226⟩,⟨f258.name,by decide,kT11 func258⟩,kT11 func150,⟨f275.name,by decide,kT11 func275⟩,⟨f276.name,by decide,kT11 func276⟩,⟨f277.name,by decide,kT11 func277⟩,⟨f278.name,by decide,kT11 func278⟩,⟨f279.name,by decide,kT11 func279⟩,⟨f280.name,by decide,kT11 func280⟩,⟨f281.name,by decide,kT11 func281⟩,⟨f282.name,by decide,kT11 func282⟩,kT11 func200,kT11 func201,⟨f289.name,by decide,kT11 func289⟩,kT11 func245,kT11 func246,⟨f290.name,by decide,kT11 func290⟩,⟨f291.name,by decide,kT11 func291⟩,⟨f293.name,by decide,kT11 func293⟩,underlying0,isAgg0,sizeOf0,zeroValue0,underlying3,isAgg3,sizeOf3,zeroValue3,underlying4,isAgg4,sizeOf4,zeroValue4,underlying5,isAgg5,sizeOf5,zeroValue5,underlying9,isAgg9,sizeOf9,zeroValue9,underlying100,isAgg100,sizeOf100,zeroValue100,underlying268,isAgg268,sizeOf268,zeroValue268,underlying210,isAgg210,sizeOf210,zeroValue210,underlying241,isAgg241,sizeOf241,zeroValue241,underlying242,isAgg242,sizeOf242,zeroValue242,underlying90,isAgg90,sizeOf90,zeroValue90,underlying249,isAgg249,sizeOf249,zeroValue249,underlying251,isAgg251,sizeOf251,zeroValue251,underlying281,isAgg281,sizeOf281,zeroValue281,underlying285,isAgg285,sizeOf285,zeroValue285,underlying303,isAgg303,sizeOf303,zeroValue303,underlying304,isAgg304,sizeOf304,zeroValue304⟩
end Go.Proofs
namespace Go.Ab
open Go.Proofs.Tryz
open Go.Proofs Go.Sort Go.RowKit Go.Lib Go.Shelf
variable {e:Bool}{i:Int}{j m:Nat}{σ:Mem}
theorem Frm.grown{w w':World}(h:Frm (fun _=>False) w w'):∃q os,w'=grow (w.drewN q) os:=by
 obtain⟨x,E,r,C,D⟩:=w;obtain⟨o,v,l,t,u⟩:=w';obtain⟨a,b,c,g,A,f⟩:=h;simp only at a b c g A f;refine⟨l-r,o.extract x.size o.size,?_⟩;subst a b c;have e:r+(l-r)=l:=by omega
 show World.mk o v l t u=World.mk (x++o.extract x.size o.size) v (r+(l-r)) t u;rw[e];congr 1;apply Array.ext
 .simp;omega
 .intro i z B;by_cases y:i<x.size
  .have:=f i y id;rw[z1f z,z1f y]at this;rw[Array.getElem_append_left y];exact z1e this
  .rw [Array.getElem_append_right (by omega)];simp;congr 1;omega
def Vp:AV->Bool
 |.int .. => true
 |.str s=>decide (s.length<=maxLen)
 |_=>false
def vlC:AV->Value
 |.int k n=>.int k n
 |.str s=>.string ⟨s.toArray⟩
 |_=>undef
def Lf{c:AV}(h:Vp c=true):Rep σ c (vlC c):=by
 cases c<;>first|exact .int _ _|exact .str _ (z1j h)|cases h
def O7{c:AV}{u:Value}(h:Vp c=true)(l:Rep σ c u):u=vlC c:=by
 cases l<;>first|rfl|cases h
def O8{c:AV}(h:Vp c=true):(vlC c).oneCell'=true:=by
 cases c<;>first|rfl|cases h
section
variable {α:Type}{cells:α->List AV}{k:Nat}
def q4l(r:∀x,(cells x).length=k)(v:∀x,∀c∈cells x,Vp c=true){l:List α}{vs:Array Value}(h:∀(m:Nat)(x:AV),(l.map fun s=>AV.agg (cells s))[m]?=some x->x.cells.length=k/\∀(j:Nat)(c:AV),x.cells[j]?=some c->∃u:Value,vs[m*k+j]?=some u/\Rep σ c u)(t:m<l.length)(q:j<k):
  vs[m*k+j]?=((cells l[m]).map vlC)[j]?:=by
 have n:j<(cells l[m]).length:=by rw[r];exact q
 obtain⟨u,o,p⟩:=(h m (.agg (cells l[m])) (by simp[t])).2 j (cells l[m])[j] (x8h n);rw[o,x8n,x8h n,O7 (v _ _ (x8o n)) p];rfl
def q4r(r:∀x,(cells x).length=k)(v:∀x,∀c∈cells x,Vp c=true){l:List α}{vs:Array Value}(h:∀(m:Nat)(t:m<l.length)(j:Nat),j<k->vs[m*k+j]?=((cells l[m]).map vlC)[j]?):∀(m:Nat)(x:AV),(l.map fun s=>AV.agg (cells s))[m]?=some x->x.cells.length=k/\∀(j:Nat)(c:AV),x.cells[j]?=some c->∃u:Value,vs[m*k+j]?=some u/\Rep σ c u:=by
 intro m x n;rw[x8n]at n;cases p:l[m]?with
 |none=>rw[p]at n;cases n
 | some s=>
   rw[p]at n;cases n;obtain⟨t,rfl⟩:=x8t.1 p;refine⟨r _,fun j c o=>?_⟩;have o:(cells l[m])[j]?=some c:=o;obtain⟨q,rfl⟩:=x8t.1 o;refine⟨vlC (cells l[m])[j],?_,Lf (v _ _ (x8o q))⟩;rw[h m t j (by rw[<-r l[m]];exact q),x8n,o];rfl
def M8[Inhabited α](r:∀x,(cells x).length=k){d:Array α}{t:Nat}(h:t<d.size*k):(flatK (fun x=>(cells x).map vlC) k d)[t]?=((cells (d[t/k]'(z5g (by rw[z5l];exact h)))).map vlC)[t%k]?:=by
 have o:0<k:=by rcases Nat.eq_zero_or_pos k with l|l;subst l;omega;exact l
 have p:=get_flatK (fun x=>(cells x).map vlC) k d t h;have n:t/k<d.size:=z5g (by rw[z5l];exact h);rw[z5r _ t (by simpa using h),z5r d (t/k) n]at p;rw[z1f (by simpa using h),p];have q:t%k<((cells (d[t/k]'n)).map vlC).length:=by rw[x8g,r];exact mod_lt _ o
 rw[x8h q,z5r ((cells (d[t/k]'n)).map vlC) (t%k) q]
def TT(n:∀x,∀c∈cells x,Vp c=true)(x:α):Rep σ (.agg (cells x)) (.agg ((cells x).map vlC).toArray):=by
 refine .agg _ _ (fun j=>((cells x).map vlC).toArray.getD j undef) (by simp) (fun j c l=>?_) (fun j c l=>?_);all_goals
  obtain⟨h,rfl⟩:=x8t.1 l
 .simp [h]
 .simpa [h]using Lf (σ:=σ) (n _ _ (x8o h))
def q5u[Inhabited α](I:∀x,(cells x).length=k)(M:∀x,∀c∈cells x,Vp c=true){ρ:Ren}(L:SlLaysF0.n6 prog ρ)(J:0<k)(Z:∀(z:Array Value)(w:World),(callFunc (ρ.f 6) z).run prog w=.ok (.enter (ρ.f 6) z) w)(aE:∀w,(isAgg (ρ.t 24)).run prog w=.ok true w)(zE:∀w,(Go.sizeOf (ρ.t 24)).run prog w=.ok k w)(e:TypeId){g:FuncId}(C:α->α->Int)(B:∀x y,SpecP prog g [.agg (cells x),.agg (cells y)] (fun r=>r=.int .i64 (C x y)))(hO:SWO (ltOf C))(hT:∀x y,(ltOf C) x y=false->(ltOf C) y x=false->x=y)(l:List α)(hlen:l.length<=1000000000):
  SpecH prog (ρ.f 6) [.hd 1000 0 l.length,.p (.fn g [])] [(1000,.own e k (l.map fun s=>.agg (cells s)))]
   (fun r H=>r=.p (.tup [])/\H=[(1000,.own e k ((l.mergeSort fun x y=> !(ltOf C) y x).map fun s=>.agg (cells s)))]):=by
 refine⟨Z,fun σ β w z hn P hH=>?_⟩;obtain⟨v,u,rfl⟩:=x2b hn;have N:RepL σ β (.hd 1000 0 l.length) v:=by simpa using P 0 _ rfl
 have hv2:RepL σ β (.p (.fn g [])) u:=by simpa using P 1 _ rfl
 obtain rfl:u=.func (.func g) #[] #[]:=by
  cases hv2 with
  | p h=>cases h with
    | fn _ _ vs u hn' T hr=>
      obtain rfl:vs=#[]:=Array.size_eq_zero_iff.1 hn';rfl
 have U:=hH.chunks 1000 _ x8p;rcases U with⟨R,V⟩|⟨i,vs,O,hsz,hh,h2,h3,h4,h5⟩
 .have hl0:l=[]:=z5p.1 V;subst hl0;obtain⟨rfl,_⟩:=Sl N R;refine(AnyF.slices_SortFunc_none L none 0 (.func (.func g) #[] #[]) w).mono ?_;rintro e w' ⟨rfl,rfl⟩;exact⟨.p (.tup []),.tuple #[],σ,β,_,rfl,⟨rfl,rfl⟩,.p (.tup [] #[] (fun _=>undef) rfl (by simp) (by simp)),by simpa using hH,by simpa using Later.refl _ _ _ _⟩
 .have hve:=Mn N O;subst hve;have K:=(hH.apart 1000 (by simp) i O i.blk i.has_blk).2;have A:l.length<=i.cap:=by simpa using h3
  have hle:l.length*k<=vs.size:=by rw[h2];exact z0y _ A
  have G:=fun m j hm o=>q4l I M (σ:=σ) (l:=l) h5 (m:=m) (j:=j) hm o;have T:=AnyQ.slices_SortFunc_total L k aE zE (fun x=>(cells x).map vlC) (fun x=>by simp[I]) (fun x v P=>by obtain⟨c,D,rfl⟩:=x8s.1 P;exact O8 (M x c D)) C hO g #[] i.blk 0 i.cap l.toArray w
   (B default default).go (fun m os dk _ x y=>by
     refine((B x y).ok (fun _=>none) _ #[.agg ((cells x).map vlC).toArray,.agg ((cells y).map vlC).toArray] rfl (fun j c o=>?_) (fun b c h=>by cases h)).mono ?_
     .match j,o with
      |0,o=>cases o;exact TT M x
      |1,o=>cases o;exact TT M y
     .rintro e w' ⟨c,u,σ',rfl,rfl,hr,_,_,Y,_⟩;cases hr;exact⟨rfl,Y.grown⟩) (fun t ht=>by
     have a:t<l.toArray.size*k:=by simpa using ht
     refine⟨?_,YY hh _⟩;have D:=M8 I a;have E:=G (t/k) (t%k) (z5g (by rw[z5l];simpa using a)) (mod_lt _ J);rw[Nat.div_add_mod']at E;rw[FQ hh,z1h,E,z5r _ t (by simpa using a)];rw[z1f (by simpa using a)]at D;simpa using D.symm) K (by simp;omega) hT
  simp only[z2l]at T;refine T.mono ?_;rintro e w' ⟨rfl,n,os,rfl⟩;generalize hS:(l.mergeSort fun x y=> !(ltOf C) y x)=S;have F:S.length=l.length:=by rw[<-hS];simp
  obtain⟨Y,hb⟩:=V2 (enc:=id) (n:=n) (os:=os) (d:=flatK (fun x=>(cells x).map vlC) k S.toArray) hh K;obtain⟨Q,hL⟩:=Pj (c':=.own e k (S.map fun s=>.agg (cells s))) hH O Y (.inr ⟨i,_,O,hsz,hb,by rw[Xh];exact h2,by simp[F];exact A,h4,q4r I M fun m hm j o=>by
   have q:m*k+j<S.length*k:=z2b (by rw[Nat.succ_mul];exact Nat.add_lt_add_left o _:m*k+j<(m+1)*k) (z0y _ hm);have D:=BN (enc:=id) (d:=flatK (fun x=>(cells x).map vlC) k S.toArray) (vs:=vs) (by simp[F];exact hle) (k:=m*k+j) (by simpa using q);have E:=M8 I (d:=S.toArray) (t:=m*k+j) (by simpa using q);rw[z1f (by simpa using q)]at E;rw[D];simp only[id];rw[E];have e1:(m*k+j)/k=m:=by rw[z5l,Nat.mul_add_div J,Nat.div_eq_of_lt o,z3q]
   have e2:(m*k+j)%k=j:=by rw[z5l,Nat.mul_add_mod,Nat.mod_eq_of_lt o]
   simp[e1,e2]⟩)
  exact⟨.p (.tup []),.tuple #[],σ,β,_,rfl,⟨rfl,rfl⟩,.p (.tup [] #[] (fun _=>undef) rfl (by simp) (by simp)),Q,hL⟩
end
def Y6{β:Type}{p:β->Prop}[Inhabited {s:β // p s}]{cells:β->List AV}{k:Nat}(E:∀x,(cells x).length=k)(F:∀x,p x->∀c∈cells x,Vp c=true){ρ:Ren}(L:SlLaysF0.n6 prog ρ)(d:0<k)(z:∀(vals:Array Value)(w:World),(callFunc (ρ.f 6) vals).run prog w=.ok (.enter (ρ.f 6) vals) w)(A:∀w,(isAgg (ρ.t 24)).run prog w=.ok true w)(G:∀w,(Go.sizeOf (ρ.t 24)).run prog w=.ok k w)(e:TypeId){g:FuncId}(n:β->β->Int)(q:∀x y,p x->p y->SpecP prog g [.agg (cells x),.agg (cells y)] (fun r=>r=.int .i64 (n x y)))(D:SWO (ltOf fun x y:{s:β // p s}=>n x.1 y.1))(hT:∀x y,p x->p y->¬n x y<0->¬n y x<0->x=y)(l:List β)(o:∀s∈l,p s)(u:l.length<=1000000000):
  SpecH prog (ρ.f 6) [.hd 1000 0 l.length,.p (.fn g [])] [(1000,.own e k (l.map fun s=>.agg (cells s)))]
   (fun r H=>r=.p (.tup [])/\H=[(1000,.own e k ((l.mergeSort fun x y=> !decide (n y x<0)).map fun s=>.agg (cells s)))]):=by
 have h:=q5u (α:={s:β // p s}) (cells:=fun s=>cells s.1) (fun x=>E x.1) (fun x=>F x.1 x.2) L d z A G e (fun x y=>n x.1 y.1) (fun x y=>q x.1 y.1 x.2 y.2) D (fun x y v C=>Subtype.ext (hT x.1 y.1 x.2 y.2 (of_decide_eq_false v) (of_decide_eq_false C))) (l.attachWith p o) (by simpa using u);have B:((l.attachWith p o).map fun s=>AV.agg (cells s.1))=l.map fun s=>AV.agg (cells s):=by simp
 have e2:(((l.attachWith p o).mergeSort fun x y=> !(ltOf fun x y:{s:β // p s}=>n x.1 y.1) y x).map fun s=>AV.agg (cells s.1))=(l.mergeSort fun x y=> !decide (n y x<0)).map fun s=>AV.agg (cells s):=by
  have v:=List.map_mergeSort (l:=l.attachWith p o) (f:=Subtype.val) (r:=fun x y=> !(ltOf fun x y:{s:β // p s}=>n x.1 y.1) y x) (s:=fun x y=> !decide (n y x<0)) (fun a _ b _=>rfl);rw[List.attachWith_map_subtype_val]at v;rw[<-v,z2c];rfl
 rw[B,e2]at h;simpa using h
structure CmpK{κ:Type}(c:κ->κ->Int):Prop where
 zero:∀x y,c x y=0↔x=y
 anti:∀x y,c x y<0↔0<c y x
 tr:∀x y z,c x y<0->c y z<0->c x z<0
theorem CmpK.ge{κ:Type}{c:κ->κ->Int}(h:CmpK c){x y:κ}(o:¬c x y<0):x=y\/c y x<0:=by
 rcases Int.lt_trichotomy (c x y) 0 with l|l|l
 .exact absurd l o
 .exact .inl ((h.zero x y).1 l)
 .exact .inr ((h.anti y x).2 l)
theorem CmpK.ntr{κ:Type}{c:κ->κ->Int}(h:CmpK c){x y z:κ}(q:¬c x y<0)(o:¬c y z<0):¬c x z<0:=fun l=>by
 rcases h.ge q with e|e
 .rw [e]at l;exact o l
 .exact o (h.tr _ _ _ e l)
theorem CmpK.swo{κ α:Type}{c:κ->κ->Int}(h:CmpK c)(f:α->κ):SWO (ltOf fun x y=>c (f x) (f y)):=by
 refine⟨fun x=>?_,fun x y z l o=>?_,fun x y z l o=>?_⟩;all_goals
  unfold ltOf at*
  simp only[z0w,z1r]at*
 .rw [(h.zero _ _).2 rfl];decide
 .exact h.tr _ _ _ l o
 .exact h.ntr l o
theorem CmpK.lex{κ κ':Type}{c:κ->κ->Int}{d:κ'->κ'->Int}(h:CmpK c)(k:CmpK d):CmpK (fun p q:κ×κ'=>if c p.1 q.1=0 then d p.2 q.2 else c p.1 q.1):=by
 refine⟨fun x y=>?_,fun x y=>?_,fun x y z l t=>?_⟩
 .obtain ⟨a,b⟩:=x;obtain⟨f,g⟩:=y;simp only[Prod.mk.injEq,<-h.zero a f,<-k.zero b g];split<;>simp_all
 .have e:c x.1 y.1=0↔c y.1 x.1=0:=by rw[h.zero,h.zero];exact eq_comm
  by_cases r:c x.1 y.1=0
  .simp only[r,e.1 r,if_true];exact k.anti _ _
  .have l:¬c y.1 x.1=0:=fun l=>r (e.2 l);simp only[r,l,z3e];exact h.anti _ _
 .by_cases ha:x.1=y.1
  .have u:=(h.zero x.1 y.1).2 ha;by_cases o:y.1=z.1
   .have v:=(h.zero y.1 z.1).2 o;have w:=(h.zero x.1 z.1).2 (ha.trans o);simp only[u,v,w,if_true]at*
    exact k.tr _ _ _ l t
   .rw [ha];simpa only[mt (h.zero y.1 z.1).1 o,z3e]using t
  .have u:=mt (h.zero x.1 y.1).1 ha;simp only[u,z3e]at l;by_cases o:y.1=z.1
   .rw [<-o];simpa only[u,z3e]using l
   .have v:=mt (h.zero y.1 z.1).1 o;simp only[v,z3e]at t;have w:=h.tr _ _ _ l t;have A:¬c x.1 z.1=0:=by omega
    simpa only[A,z3e]using w
def cmpI_k:CmpK cmpI:=by
 refine⟨fun x y=>?_,fun x y=>?_,fun x y z=>?_⟩<;>unfold cmpI<;>(repeat' split)<;>omega
theorem TO:∀(x y:List UInt8),Op.bytesLess x y=decide (x<y)
 |[],[]=>by simp[Op.bytesLess]
 |_::_,[]=>by simp[Op.bytesLess]
 |[],_::_=>by simp[Op.bytesLess]
 | a::x,b::y=>by
   rw[Op.bytesLess,TO x y];simp only[List.cons_lt_cons_iff];by_cases h:a<b<;>by_cases l:a=b<;>by_cases n:x<y<;>simp[h,l,n]
def ltT(a b:Str):Prop:=Op.bytesLess a b=true
def BJ{a b:Str}:ltT a b↔a<b:=by
 unfold ltT;rw[TO,z0w]
theorem ltT.irr(a:Str):¬ltT a a:=fun h=>List.lt_irrefl a (BJ.1 h)
theorem ltT.trans(a b c:Str)(l:ltT a b)(o:ltT b c):ltT a c:=BJ.2 (List.lt_trans (BJ.1 l) (BJ.1 o))
theorem ltT.total{a b:Str}(h:a≠b):ltT a b\/ltT b a:=by
 by_cases o:a<b
 .exact .inl (BJ.2 o)
 .rcases List.le_iff_lt_or_eq.1 (List.not_lt.1 o)with l|l
  .exact .inr (BJ.2 l)
  .exact absurd l.symm h
def cmpT(a b:Str):Int:=if Op.bytesLess a b=true then -1 else if Op.bytesLess b a=true then 1 else 0
def FX(a b:Str):cmpT a b<0↔ltT a b:=by
 unfold cmpT ltT;split
 .rename_i h;exact⟨fun _=>h,fun _=>by decide⟩
 .rename_i h;split
  .exact ⟨fun l=>absurd l (by decide),fun l=>absurd l h⟩
  .exact ⟨fun l=>absurd l (by decide),fun l=>absurd l h⟩
def Bq(a b:Str):0<cmpT a b↔ltT b a:=by
 unfold cmpT;split
 .rename_i h;exact⟨fun l=>absurd l (by decide),fun l=>absurd (ltT.trans _ _ _ h l) (ltT.irr _)⟩
 .split
  .rename_i h;exact⟨fun _=>h,fun _=>by decide⟩
  .rename_i h;exact⟨fun l=>absurd l (by decide),fun l=>absurd l h⟩
def cmpT_k:CmpK cmpT:=by
 refine⟨fun x y=>?_,fun x y=>?_,fun x y z=>?_⟩
 .refine ⟨fun h=>?_,fun h=>?_⟩
  .refine z1c fun n=>?_;rcases ltT.total n with l|l
   .have:=(FX x y).2 l;omega
   .have:=(Bq x y).2 l;omega
  .subst h;have l:=mt (FX x x).1 (ltT.irr x);have o:=mt (Bq x x).1 (ltT.irr x);omega
 .rw [FX,Bq]
 .rw [FX,FX,FX];exact ltT.trans x y z
def FH(a b:Int)(r:List Int):orI (a::b::r)=if a=0 then orI (b::r)else a:=rfl
def P4(a:Int):orI [a]=a:=by
 show(if a=0 then 0 else a)=a;split<;>omega
def q9q(a b c:Int):orI [a,b,c]<0↔a<0\/a=0/\(b<0\/b=0/\c<0):=by
 by_cases h:a=0<;>by_cases l:b=0<;>by_cases n:c=0<;>simp[orI,h,l,n]
def Qp(x y:Int):cmpI x y<0↔x<y:=by
 unfold cmpI
 (repeat' split)<;>omega
def KX(x y:Int):cmpI x y=0↔x=y:=cmpI_k.zero x y
def YC{x y:Int}(l:x≠9223372036854775807)(n:y≠9223372036854775807)(h:XG x=XG y):x=y:=by
 unfold XG at h;split at h<;>split at h<;>omega
def BI(a b:Step):Bool:=decide (TU a b<0)
def okSt(s:Step):Prop:=s.src≠9223372036854775807/\s.dst≠9223372036854775807
instance:Inhabited {s:Step // okSt s}:=⟨⟨⟨0,0,0⟩,by constructor<;>decide⟩⟩
def GY(l:List Step):List Step:=l.mergeSort fun x y=> !BI y x
def Wf{l:List Step}:(GY l).length=l.length:=by unfold GY;simp
def G9(l:List Step):(GY l).Perm l:=z1v _ _
def q5y(s:Step):Int×Int×Int:=(XG s.src,XG s.dst,s.kind)
def OG(a b:Step):TU a b=(fun p q:Int×Int×Int=>if cmpI p.1 q.1=0 then(fun p q:Int×Int=>if cmpI p.1 q.1=0 then cmpI p.2 q.2 else cmpI p.1 q.1) p.2 q.2 else cmpI p.1 q.1) (q5y a) (q5y b):=by
 unfold TU;rw[FH,FH,P4];rfl
def Ka(l:List Step)(n:∀s∈l,okSt s)(h:l.length<=1000000000):
  aH 226 [.hd 1000 0 l.length,.p (.fn 227 [])] [(1000,.own 225 3 (l.map fun s=>.agg s.cells))] (.p (.tup [])) [(1000,.own 225 3 ((GY l).map fun s=>.agg s.cells))]:=by
 have t:=cmpI_k.lex (cmpI_k.lex cmpI_k);exact Y6 (p:=okSt) (cells:=Step.cells) (k:=3) (fun _=>rfl) (fun x _ c r=>by simp only[Step.cells,x8r,z3w,or_false]at r;rcases r with rfl|rfl|rfl<;>rfl) CU (by decide) call226 Tryz.isAgg225 Tryz.sizeOf225 225 TU (fun x y _ _=>T3 x y)
  (by simp only[OG];exact t.swo fun s:{s:Step // okSt s}=>q5y s.1) (fun x y u v o q=>by
    rw[OG]at o q;have e:=(t.ge o).resolve_right q;obtain⟨a,b,c⟩:=x;obtain⟨w,z,c'⟩:=y;simp only[q5y,Prod.mk.injEq]at e;obtain rfl:a=w:=YC u.1 v.1 e.1;obtain rfl:b=z:=YC u.2 v.2 e.2.1;rw[e.2.2]) l n h
def GJ(c:UInt8):aP 142 [.int .u8 c.toNat] (.bool (JN c)):=by
 refine sC NW func142 ?_;conv=>whnf
 repeat' (apply bD<;>intro _<;>first|omega|conv=>whnf)
 .exact RetK.bool (by simp_all[JN];try omega)
 .exact RetK.ff (by simp_all[JN];try omega)
def Z5(c:UInt8):aP 143 [.int .u8 c.toNat] (.bool (LX c)):=by
 refine sC NZ func143 ?_;conv=>whnf
 repeat' (apply bD<;>intro _<;>first|omega|conv=>whnf)
 .exact RetK.bool (by simp_all[LX];try omega)
 .exact RetK.ff (by simp_all[LX];try omega)
def wordsL:List Str:=[[103,108,111,98,97,108],[112,114,111,99],[118,97,114],[114,101,102],[105,102],[101,108,115,101],[119,104,105,108,101],[98,114,101,97,107],[99,111,110,116,105,110,117,101],[114,101,116,117,114,110],[103,111,116,111],[114,101,97,100],[112,114,105,110,116]]
def Z4:aP 188 [] (eStrs wordsL):=by
 refine sC NX func188 ?_;conv=>whnf
 repeat' ((first|refine x9g rfl ?_|refine aD ?_|refine BsK.pureL rfl rfl ?_)<;>conv=>whnf)
 exact RetK.p rfl
def A4(s:Str):Vd s=wordsL.any fun w=>w==s:=by
 rw[z2t];unfold Vd wordsL;simp only[z2s,z0w,List.any_cons,List.any_nil,Bool.or_false,z2k,z5t,@eq_comm _ s]
def Ws(s:Str):aP 144 [.str s] (.bool (Vd s)):=by
 refine sC MZ func144 ?_;conv=>whnf
 rw[A4];repeat' ((first|(refine iM fun _=>?_)|refine cP Z4 ?_)<;>conv=>whnf)
 have n:wordsL.length<=1000:=by decide
 generalize wordsL=l at n⊢;have q:(l.map AV.str).length=l.length:=x8g _;refine lI (fun j:Nat=>⟨[(0,.p (.str s)),(5,.p (eStrs l)),(6,.p (.int .i64 (l.map AV.str).length)),(7,.j j)],[]⟩) (fun j=>j<=l.length/\(l.drop j).any (fun w=>w==s)=l.any fun w=>w==s) (fun j=>l.length-j) 0 ⟨x8m _,rfl⟩ ?_;rintro j ⟨o,h⟩;conv=>whnf
 repeat' ((first|(refine gX ?_;intros)|((first|apply bD|apply bB)<;>intro _<;>try omega))<;>conv=>whnf)
 .exact RetK.tt (by rw[<-h,Yp (p:=fun w=>w==s) (by omega) (by assumption)])
 .exact nX (j+1) ⟨by omega,by rw[<-h,Vq (p:=fun w=>w==s) (by omega) (by assumption)]⟩
 .exact RetK.ff (by rw[<-h,DL (by omega)])
def Ty{s:Str}{i:Nat}(h:s.length<=i):KG s i=i:=X6 fun l=>by omega
def XA(s:Str):aP 79 [.str s] (.bool (isName s)):=by
 refine sC MX func79 ?_;conv=>whnf
 by_cases q:s=[]
 .subst q;have e:isName []=false:=by unfold isName;rw[dif_neg (by simp)]
  rw[e];repeat' ((first|(refine iM fun _=>?_)|((first|apply bD|apply bB)<;>intro _<;>try omega))<;>conv=>whnf)
  all_goals first
   |exact RetK.ff rfl
   |(exfalso;simp_all;done)
 have l:0<s.length:=z4q.2 q;have r:(s==(⟨#[]⟩:ByteArray).data.toList)=false:=by simpa using q
 repeat' ((first|(refine iM fun _=>?_)|refine cP (GJ _) ?_|refine ByteK.at (by omega) ?_|((first|apply bD|apply bN|apply bB)<;>intro _<;>try omega))<;>conv=>whnf)
 .exfalso;rename_i h;rw[r]at h;cases h
 .exact RetK.ff (by unfold isName;rw[dif_neg (by omega)])
 rotate_left 1
 .exact RetK.ff (by unfold isName;rw[dif_pos (by omega)];simp_all)
 have n:JN s[0]=true:=by assumption
 have u:s.length<=8:=by omega
 have e0:KG s 0=KG s 1:=(PN l (by unfold q2t;rw[n];rfl)).symm;have t:isName s=(decide (KG s 1=s.length) && !Vd s):=by
  unfold isName;rw[dif_pos (by omega),n,e0];rfl
 refine lI (fun j:Nat=>⟨[(0,.p (.str s)),(3,.j j)],[]⟩) (fun j=>1<=j/\j<=s.length/\KG s j=KG s 1) (fun j=>s.length-j) 1 ⟨x9z _,l,rfl⟩ ?_;rintro j ⟨v,w,o⟩;conv=>whnf
 repeat' ((first|(refine iM fun _=>?_)|refine cP (GJ _) ?_|refine cP (Z5 _) ?_|refine cP (Ws _) ?_|refine ByteK.at (by omega) ?_|refine wI ?_|((first|apply bD|apply bN)<;>intro _<;>try omega))<;>conv=>whnf)
 all_goals first
  |exact nX (j+1) ⟨by omega,by omega,by rw[PN (by omega) (by simp_all[q2t])];exact o⟩
  |exact RetK.ff (by rw[t,<-o,X6 fun _=>by simp_all[q2t]];simp;omega)
  |exact RetK.bool (by rw[t,<-o,Ty (by omega),show j=s.length by omega];simp)
def UE(l:List Str):aP 78 [eStrs l] (.bool (namesB l)):=by
 refine sC NY func78 ?_;conv=>whnf
 refine iM fun _=>?_;conv=>whnf
 refine lI (fun j:Nat=>⟨[(5,.p (eStrs l)),(6,.p (.int .i64 (l.map AV.str).length)),(7,.j j)],[]⟩) (fun j=>j<=l.length/\(l.drop j).all isName=namesB l) (fun j=>l.length-j) 0 ⟨x8m _,rfl⟩ ?_;rintro j ⟨n,h⟩;have o:(l.map AV.str).length=l.length:=x8g _;conv=>whnf
 repeat' ((first|refine cP (XA _) ?_|(refine gX ?_;intros)|((first|apply bD|apply bN)<;>intro _<;>try omega))<;>conv=>whnf)
 .exact nX (j+1) ⟨by omega,by rw[HA (by omega) (by assumption)];exact h⟩
 .exact RetK.ff (by rw[<-h,V9 (by omega) (by assumption)])
 .exact RetK.tt (by rw[<-h,HC (by omega)])
def Z8(op:Int):aP 243 [.int .i64 op] (.int .i64 (Uv op)):=by
 refine sC NU func243 ?_;conv=>whnf
 repeat' (apply bD<;>intro _<;>first|omega|conv=>whnf)
 all_goals exact RetK.int (by unfold Uv;(repeat' split)<;>omega)
def HR(x:X):aP 146 [.agg x.cells] (.bool (noneB x)):=by
 refine sC MK func146 ?_;conv=>whnf
 repeat' ((first|(refine iM fun _=>?_)|((first|apply bD|apply bB)<;>intro _<;>try omega))<;>conv=>whnf)
 all_goals have h:((X.avs x.kids).length:Int)=x.kids.length:=by rw[X.avs_len]
 all_goals first
  |exact RetK.ff (by simp_all[noneB];done)
  |exact RetK.bool (by simp_all[noneB];done)
def HF(x:X):Bool:=decide (Uv x.op=(x.kids.length:Int))&&(decide (x.op=1)||decide (x.n=0))&&decide (0<=x.n)&&(decide (x.op=2) == !(x.name==[]))&&((x.name==[])||isName x.name)
def NJ:Nat->X->Bool
 |0,_=>true
 |k+1,x=>HF x&&x.kids.all (NJ k)
theorem TH:∀(l:List X)(y:X),y∈l->wX y<=wXs l
 |[],y,h=>by cases h
 | a::r,y,h=>by
   rw[wXs];rcases x8r.1 h with rfl|h
   .omega
   .have:=TH r y h;omega
def Wi : ∀(k:Nat)(x:X)(_:wX x<k),aP 190 [.agg x.cells] (.bool (NJ k x)):=by
 intro k;induction k with
 |zero=>intro x h;omega
 | succ k t=>
   intro x y;have s:wX x=1+wXs x.kids:=by cases x;rw[wX];rfl
   have v:((X.avs x.kids).length:Int)=x.kids.length:=by rw[X.avs_len]
   refine sC MY func190 ?_;conv=>whnf
   repeat' ((first|(refine iM fun _=>?_)|refine cP (Z8 _) ?_|refine cP (XA _) ?_|refine dA ?_|refine KE XD rfl rfl rfl rfl rfl ?_|((first|apply bD|apply bE|apply bN)<;>intro _<;>try omega))<;>conv=>whnf)
   all_goals simp only[show(ByteArray.mk #[]).data.toList=[]from rfl]at*
   all_goals first
    | (refine RetK.ff ?_
       rw[NJ,z4y];left;unfold HF;rw[show decide (0<=x.n)=false from x9o (by omega)];simp
       done)
    | (refine RetK.ff ?_
       rw[NJ,z4y];left;rename_i h;have r:(decide (x.op=2) == !(x.name==[]))=false:=by
        have e:decide (x.op=2)=(x.op==2):=rfl;rw[e]
        revert h
        cases(x.op==2)<;>cases(x.name==[])<;>decide
       unfold HF;rw[r];simp
       done)
    | (refine RetK.ff ?_
       rw[NJ,z4y];left;simp_all[HF]
       done)
    | (refine RetK.ff ?_
       rw[NJ,z4y];left;simp_all[HF];omega)
    | (have q:HF x=true:=by first
        |(simp_all[HF];done)
        |(simp_all[HF];omega)
       rw[show NJ (k+1) x=x.kids.all (NJ k) by rw[NJ,q];rfl])
   all_goals
    clear q;refine lI (fun j:Nat=>⟨[(1,.p (.ip x.cells)),(48,.p (.int .i64 (X.avs x.kids).length)),(49,.j j)],[]⟩) (fun j=>j<=x.kids.length/\(x.kids.drop j).all (NJ k)=x.kids.all (NJ k)) (fun j=>x.kids.length-j) 0 ⟨x8m _,rfl⟩ ?_;rintro j ⟨u,l⟩;rcases x8a j x.kids.length with o|o
    .have w:=TH x.kids _ (x8o o);conv=>whnf
     repeat' ((first|(refine gX ?_;intros)|refine cP (t (x.kids[j]'o) (by omega)) ?_ (ha:=.cons (Sub.refl _) .nil)|((first|apply bD|apply bN)<;>intro _<;>try omega))<;>conv=>whnf)
     .exact nX (j+1) ⟨by omega,by rw[HA (by omega) (by assumption)];exact l⟩
     .exact RetK.ff (by rw[<-l,V9 (by omega) (by assumption)])
    .conv=>whnf
     repeat' (apply bD<;>intro _<;>first|omega|conv=>whnf)
     exact RetK.tt (by rw[<-l,HC (by omega)])
def Aw:List Nat->Nat
 |[]=>0
 |a::r=>max a (Aw r)
def HV:Nat->X->Nat
 |0,_=>1
 |m+1,x=>1+Aw (x.kids.map (HV m))
def Tg{l:List Nat}(h:∀a∈l,a<=m):Aw l<=m:=by
 induction l with
 |nil=>exact x8m _
 | cons a r o=>
   have:=o fun b n=>h b (x8b _ n);have:=h a x8p;rw[Aw];omega
theorem Bu:∀(m:Nat)(x:X),HV m x<=m+1
 |0,_=>x9z _
 | m+1,x=>by
   rw[HV];have:Aw (x.kids.map (HV m))<=m+1:=Tg fun a ha=>by
    obtain⟨y,_,rfl⟩:=x8s.1 ha;exact Bu m y
   omega
def Wa:∀(m:Nat)(_:m<=1000)(x:X),aP 189 [.agg x.cells,.int .i64 m] (.int .i64 (HV m x)):=by
 intro m;induction m with
 | zero=>
   intro _ x;refine sC JI func189 ?_;conv=>whnf
   repeat' (apply bD<;>intro _<;>first|omega|conv=>whnf)
   exact RetK.int rfl
 | succ m r=>
   intro u x;have t:((X.avs x.kids).length:Int)=x.kids.length:=by rw[X.avs_len]
   refine sC JI func189 ?_;conv=>whnf
   repeat' (apply bD<;>intro _<;>first|omega|conv=>whnf)
   have q:Aw (x.kids.map (HV m))<=m+1:=Tg fun a ha=>by
    obtain⟨y,_,rfl⟩:=x8s.1 ha;exact Bu m y
   refine lI (fun y:Nat×Nat=>⟨[(1,.j (m+1:Nat)),(2,.p (.ip x.cells)),(5,.j y.2),(6,.j y.1)],[]⟩) (fun y=>y.1<=x.kids.length/\y.2<=m+1/\max y.2 (Aw ((x.kids.drop y.1).map (HV m)))=Aw (x.kids.map (HV m))) (fun y=>x.kids.length-y.1) (0,0) ⟨x8m _,x8m _,by simp⟩ ?_;rintro⟨j,d⟩ ⟨n,o,l⟩;simp only at n o l⊢;rcases x8a j x.kids.length with h|h
   .rw [x9t h,x9f,Aw]at l;have s:=Bu m x.kids[j];conv=>whnf
    repeat' ((first|(refine gX ?_;intros)|refine cP (r (by omega) (x.kids[j]'h)) ?_ (ha:=.cons (Sub.refl _) (.cons (Sub.int (by omega)) .nil))|(apply bD<;>intro _<;>try omega))<;>conv=>whnf)
    all_goals first
     |exact nX (j+1,HV m x.kids[j]) ⟨by simp only;omega,by simp only;omega,by simp only;omega⟩
     |exact nX (j+1,d) ⟨by simp only;omega,by simp only;omega,by simp only;omega⟩
     |exact RetK.int (by rw[HV];omega)
   .rw [x9v h,z4v,Aw]at l;conv=>whnf
    repeat' ((first|(refine gX ?_;intros)|(apply bD<;>intro _<;>try omega))<;>conv=>whnf)
    exact RetK.int (by rw[HV];omega)
def mayXR(x:X):Bool:=decide (HV 20 x<=20)&&NJ (wX x+1) x
def JD(x:X):aP 145 [.agg x.cells] (.bool (mayXR x)):=by
 refine sC DQ func145 ?_;conv=>whnf
 repeat' ((first|refine cP (Wa 20 (by omega) x) ?_ (ha:=.cons (Sub.refl _) (.cons (Sub.refl _) .nil))|refine cP (Wi (wX x+1) x (by omega)) ?_ (ha:=.cons (Sub.refl _) .nil)|(apply bD<;>intro _<;>try omega))<;>conv=>whnf)
 all_goals first
  |exact RetK.bool (by unfold mayXR;rw[x9e (by omega)];rfl)
  |exact RetK.ff (by unfold mayXR;rw[x9o (by omega)];rfl)
theorem Za:∀(n:Nat)(x:X),UK n x=true->HV n x<=n/\∀k,NJ k x=true
 |0,x,h=>by rw[UK]at h;cases h
 | n+1,x,h=>by
   rw [UK]at h;simp only[x9w,z0w]at h;obtain⟨p,o⟩:=h;have l:(∀y∈x.kids,UK n y=true)/\HF x=true:=by
    split at o
    .rename_i s;simp only[x9w,z0w]at o;have q:x.kids=[]:=by
      rw[s]at p;have:Uv 1=0:=by decide
      rw[this]at p;exact List.length_eq_zero_iff.1 (by omega)
     refine⟨by rw[q];simp,?_⟩;unfold HF;rw[p,s,o.2];simp[o.1]
    split at o
    .rename_i s;simp only[x9w,z0w]at o;have q:x.kids=[]:=by
      rw[s]at p;have:Uv 2=0:=by decide
      rw[this]at p;exact List.length_eq_zero_iff.1 (by omega)
     have t:(x.name==[])=false:=by
      cases z:x.name with
      | nil=>
        have:=o.2;rw[z]at this;unfold isName at this;rw[dif_neg (by simp)]at this;cases this
      |cons a r=>rfl
     refine⟨by rw[q];simp,?_⟩;unfold HF;rw[p,s,o.2,t,o.1];simp
    .rename_i u v;simp only[x9w,z0w,z0k]at o;refine⟨o.2,?_⟩;unfold HF;rw[p,o.1.1,o.1.2];simp[u,v]
   refine⟨?_,fun k=>?_⟩
   .rw [HV];have:Aw (x.kids.map (HV n))<=n:=Tg fun a ha=>by
     obtain⟨y,w,rfl⟩:=x8s.1 ha;exact(Za n y (l.1 y w)).1
    omega
   .cases k with
    |zero=>rfl
    | succ k=>
      rw[NJ,l.2,z5h,z0k];exact fun y w=>(Za n y (l.1 y w)).2 k
def IP{x:X}(h:IB x=true):mayXR x=true:=by
 obtain⟨l,n⟩:=Za 20 x h;unfold mayXR;rw[x9e l,n];rfl
def argR(a:Arg):Bool:=bif a.ref then isName a.name&&noneB a.x else(a.name==[])&&mayXR a.x
def Uk(a:Arg):aP 147 [.agg a.cells] (.bool (argR a)):=by
 refine sC Qx func147 ?_;conv=>whnf
 repeat' ((first|refine cP (XA _) ?_|refine cP (HR _) ?_|refine cP (JD _) ?_|(apply bB<;>intro _))<;>conv=>whnf)
 all_goals simp only[show(ByteArray.mk #[]).data.toList=[]from rfl]at*
 all_goals first
  |exact RetK.bool (by simp_all[argR])
  |exact RetK.ff (by simp_all[argR])
def q8y{a:Arg}(h:X2 a=true):argR a=true:=by
 unfold X2 JG FA at h;unfold argR;cases l:a.ref with
 | true=>
   rw[l]at h;simpa using h
 | false=>
   rw[l]at h;simp only[x9p,Bool.not_false,x9y,x9w]at h;rw[h.1,IP h.2];rfl
def oneOk(s:S):Bool:=VV s&&namesB s.Z
def hasXB(s:S):Bool:=decide (s.kind=1)||decide (s.kind=3)||decide (s.kind=5)||decide (s.kind=6)||(decide (s.kind=9)&&s.has)
structure OneF(s:S):Prop where
 Z:namesB s.Z=true
 lo:1<=s.kind
 hi:s.kind<=10
 x:hasXB s=true->mayXR s.x=true
 nox:hasXB s=false->noneB s.x=true
 has:s.has=true->s.kind=9
 name:s.kind=1\/s.kind=2\/s.kind=10->isName s.name=true
 noname:¬(s.kind=1\/s.kind=2\/s.kind=10)->(s.name==[])=true\/(s.kind=4/\isName s.name=true)
 C:s.kind=4->isName s.C=true
 noproc:s.kind≠4->(s.C==[])=true
 args:s.args.all argR=true
 noargs:s.kind≠4->s.args.length=0
 M:s.M.length=0\/s.kind=5\/s.kind=6
 V:s.V.length=0\/s.kind=5
def Ff{s:Str}(h:isName s=true):(s==[])=false:=by
 cases s with
 |nil=>unfold isName at h;rw[dif_neg (by simp)]at h;cases h
 |cons a r=>rfl
def KB{s:S}(h:oneOk s=true):OneF s:=by
 unfold oneOk at h;rw[x9w]at h;obtain⟨h,g⟩:=h;have t:s.args.all X2=true->s.args.all argR=true:=fun h=>by
  rw[z0k]at h⊢;exact fun a ha=>q8y (h a ha)
 have key:∀(k:Int)(f:Flds),s.kind=k->Qi s.kind s.has (s.name==[])=some f->f.has=false/\(f.M=false->s.M.length=0)/\(f.V=false->s.V.length=0)/\(s.kind≠4->s.args.length=0)/\JG s.name f.name=true/\JG s.C f.C=true/\FA s.x f.x=true/\s.args.all argR=true:=fun k f l u=>by
  rw[F9 u]at h;simp only[x9w,z2v,z3f,z4y,Bool.not_eq_false',z1r,z0w]at h;obtain⟨⟨⟨⟨⟨⟨⟨A,p⟩,q⟩,w⟩,o⟩,y⟩,r⟩,D⟩:=h;refine⟨A,fun n=>?_,fun n=>?_,fun n=>?_,o,y,r,t D⟩
  .rcases p with p|p
   .rw [n]at p;cases p
   .omega
  .rcases q with q|q
   .rw [n]at q;cases q
   .omega
  .rcases w with w|w
   .exact absurd w n
   .omega
 have v:s.kind=1\/s.kind=2\/s.kind=3\/s.kind=4\/s.kind=5\/s.kind=6\/s.kind=7\/s.kind=8\/s.kind=9\/s.kind=10:=by
  unfold VV at h;split at h
  .cases h
  .rename_i f u;unfold Qi at u
   (repeat' split at u)<;>first|(cases u;done)|omega
 have fin:∀(k:Int)(f:Flds),s.kind=k->Qi s.kind s.has (s.name==[])=some f->(1<=k/\k<=10)->f.x=hasXB s->(s.has=true->f.has=true\/k=9)->((k=1\/k=2\/k=10)->f.name=true)->(¬(k=1\/k=2\/k=10)->f.name=false\/(k=4/\f.name = !(s.name==[])))->f.C=decide (k=4)->(f.M=true->k=5\/k=6)->(f.V=true->k=5)->OneF s:=fun k f l u L d F G b c H E=>by
  obtain⟨A,p,q,w,o,y,r,D⟩:=key k f l u;unfold FA at r;refine⟨g,by omega,by omega,fun n=>?_,fun n=>?_,fun n=>?_,fun n=>?_,fun n=>?_,fun n=>?_,fun n=>?_,D,w,?_,?_⟩
  .rw [d,n]at r;exact IP r
  .rw [d,n]at r;exact r
  .rcases F n with z|z
   .rw [A]at z;cases z
   .omega
  .rw [G (by omega)]at o;exact o
  .rcases b (by omega)with z|⟨z,B⟩
   .rw [z]at o;exact .inl o
   .cases I:s.name==[]with
    |true=>exact .inl rfl
    | false=>
      rw[B,I]at o;exact .inr ⟨by omega,o⟩
  .rw [c,x9e (by omega)]at y;exact y
  .rw [c,x9o (by omega)]at y;exact y
  .cases K:f.M with
   |true=>exact .inr (by have:=H K;omega)
   |false=>exact .inl (p K)
  .cases J:f.V with
   |true=>exact .inr (by have:=E J;omega)
   |false=>exact .inl (q J)
 rcases v with l|l|l|l|l|l|l|l|l|l
 .exact fin 1 ⟨true,false,true,s.has,false,false⟩ l (by rw[l];rfl) (by omega) (by unfold hasXB;rw[l];rfl) (fun h=>.inl h) (fun _=>rfl) (fun h=>absurd (by omega) h) rfl (fun h=>by cases h) (fun h=>by cases h)
 .exact fin 2 ⟨true,false,false,s.has,false,false⟩ l (by rw[l];rfl) (by omega) (by unfold hasXB;rw[l];rfl) (fun h=>.inl h) (fun _=>rfl) (fun h=>absurd (by omega) h) rfl (fun h=>by cases h) (fun h=>by cases h)
 .exact fin 3 ⟨false,false,true,s.has,false,false⟩ l (by rw[l];rfl) (by omega) (by unfold hasXB;rw[l];rfl) (fun h=>.inl h) (fun h=>by omega) (fun _=>.inl rfl) rfl (fun h=>by cases h) (fun h=>by cases h)
 .exact fin 4 ⟨!(s.name==[]),true,false,s.has,false,false⟩ l (by rw[l];rfl) (by omega) (by unfold hasXB;rw[l];rfl) (fun h=>.inl h) (fun h=>by omega) (fun _=>.inr ⟨rfl,rfl⟩) rfl (fun h=>by cases h) (fun h=>by cases h)
 .exact fin 5 ⟨false,false,true,s.has,true,true⟩ l (by rw[l];rfl) (by omega) (by unfold hasXB;rw[l];rfl) (fun h=>.inl h) (fun h=>by omega) (fun _=>.inl rfl) rfl (fun _=>.inl rfl) (fun _=>rfl)
 .exact fin 6 ⟨false,false,true,s.has,true,false⟩ l (by rw[l];rfl) (by omega) (by unfold hasXB;rw[l];rfl) (fun h=>.inl h) (fun h=>by omega) (fun _=>.inl rfl) rfl (fun _=>.inr rfl) (fun h=>by cases h)
 .exact fin 7 ⟨false,false,false,s.has,false,false⟩ l (by rw[l];rfl) (by omega) (by unfold hasXB;rw[l];rfl) (fun h=>.inl h) (fun h=>by omega) (fun _=>.inl rfl) rfl (fun h=>by cases h) (fun h=>by cases h)
 .exact fin 8 ⟨false,false,false,s.has,false,false⟩ l (by rw[l];rfl) (by omega) (by unfold hasXB;rw[l];rfl) (fun h=>.inl h) (fun h=>by omega) (fun _=>.inl rfl) rfl (fun h=>by cases h) (fun h=>by cases h)
 .exact fin 9 ⟨false,false,s.has,false,false,false⟩ l (by rw[l];rfl) (by omega) (by unfold hasXB;rw[l];cases s.has<;>rfl) (fun _=>.inr rfl) (fun h=>by omega) (fun _=>.inl rfl) rfl (fun h=>by cases h) (fun h=>by cases h)
 .exact fin 10 ⟨true,false,false,s.has,false,false⟩ l (by rw[l];rfl) (by omega) (by unfold hasXB;rw[l];rfl) (fun h=>.inl h) (fun _=>rfl) (fun h=>absurd (by omega) h) rfl (fun h=>by cases h) (fun h=>by cases h)
def KO(n c:Nat):List Int:=(List.range' (n+1) c).map fun(k:Nat)=>(k:Int)
def FU(n a b:Nat):KO n (a+b)=KO n a++KO (n+a) b:=by
 unfold KO;rw[<-x8i,show n+a+1=n+1+1*a by omega,List.range'_append]
def q2l(n:Nat):KO n 1=[((n+1:Nat):Int)]:=by simp[KO]
mutual
theorem q4p(nest:Int):∀(t:S){n:Nat}{m:Int},D3 nest n t=some m->(flS t).map S.id=KO n (WS t)
 | .mk id kind Z name C x has args M V,n,m,h=>by
   simp only[D3]at h;split at h
   ·cases h
   split at h
   ·cases h
   rename_i hid;cases hn:namesB Z<;>rw[hn]at h
   ·cases h
   cases hf:VV (.mk id kind Z name C x has args M V)<;>rw[hf]at h
   ·cases h
   simp only[x9y]at h;split at h
   ·rename_i m1 h1;have h1':YE (nest+1) ((n+1:Nat):Int) M=some m1:=by rw[<-h1];rfl
    have h2:=JM _ _ M h1';have h3:=Xp (nest+1) M h1';have h':YE (nest+1) ((n+1+QY M:Nat):Int) V=some m:=by rw[<-h,h2];rfl
    have h4:=Xp (nest+1) V h';rw[flS,WS,x9f,x8i,h3,h4,show 1+QY M+QY V=1+(QY M+QY V) by omega,FU,q2l,FU];have:id=((n+1:Nat):Int):=by omega
    rw[show(S.mk id kind Z name C x has args M V).id=id from rfl,this];rfl
   ·cases h
theorem Xp(nest:Int):∀(l:List S){n:Nat}{m:Int},YE nest n l=some m->(flL l).map S.id=KO n (QY l)
 |[],n,m,h=>by rw[flL,QY];rfl
 | t::r,n,m,h=>by
   simp only[YE]at h;split at h
   ·cases h
   split at h
   ·rename_i m1 h1;have h2:=Py _ _ t h1;have h3:=q4p nest t h1;have h':YE nest ((n+WS t:Nat):Int) r=some m:=by rw[<-h,h2];rfl
    have h4:=Xp nest r h';rw[flL,QY,x8i,h3,h4,FU]
   ·cases h
end
theorem Ft:∀(l:List Pr){n:Nat}{m:Int},ZQ n l=some m->∀(j:Nat)(f:Pr),l[j]?=some f->(flL f.body).map S.id=KO (n+QC l j) (QY f.body)
 |[],_,_,_,j,f,hj=>by simp at hj
 | g::r,n,m,h,j,f,hj=>by
   rw[ZQ]at h;cases s:GN g<;>rw[s]at h
   .cases h
   simp only[x9y]at h;split at h
   .rename_i t o;cases j with
    | zero=>
      simp at hj;subst hj;exact Xp 1 g.body o
    | succ j=>
      have q:=JM _ _ g.body o;have p:ZQ ((n+QY g.body:Nat):Int) r=some m:=by rw[<-h,q];rfl
      have:=Ft r p j f (by simpa using hj);rw[QC,this,z2r]
   .cases h
def IM{p:Pg}(h:KT p=true){f:Pr}(o:p.A[j]?=some f):(flL f.body).map S.id=KO (QC p.A j) (QY f.body):=by
 unfold KT at h;simp only[x9w]at h;cases l:ZQ 0 p.A with
 |none=>rw[l]at h;cases h.2
 | some m=>
   have:=Ft p.A (n:=0) l j f o;simpa using this
def q2m{n c:Nat}{a:Int}(h:a∈KO n c):(n:Int)+1<=a/\a<=n+c:=by
 unfold KO at h;obtain⟨k,l,rfl⟩:=x8s.1 h;rw[List.mem_range']at l;obtain⟨i,o,rfl⟩:=l;omega
def okI(l h:Nat)(x:Int):Prop:=x = -1\/((l:Int)+1<=x/\x<=h)
mutual
theorem q8p(C:Int)(lo hi:Nat):∀(t:S)(up nx loop:Int)(n:Nat)(it:Item),it∈itS C up nx loop n t->okI lo hi nx->(loop=0\/((lo:Int)+1<=loop/\loop<=hi))->lo<=n->n+WS t<=hi->
  okI lo hi it.next/\(it.loop=0\/((lo:Int)+1<=it.loop/\it.loop<=hi))
 | .mk id kind Z name pr x has args M V,up,nx,loop,n,it,h,h1,h2,h3,h4=>by
   rw[itS]at h;rw[WS]at h4;rcases x8r.1 h with rfl|h
   ·exact⟨h1,h2⟩
   ·have h5:okI lo hi (if kind=6 then((n:Int)+1)else nx):=by
     split
     ·exact .inr ⟨by omega,by omega⟩
     ·exact h1
    have h6:(if kind=6 then((n:Int)+1)else loop)=0\/((lo:Int)+1<=(if kind=6 then((n:Int)+1)else loop)/\(if kind=6 then((n:Int)+1)else loop)<=hi):=by
     split
     ·exact .inr ⟨by omega,by omega⟩
     ·exact h2
    rcases x8e.1 h with h|h
    ·exact Bs C lo hi M _ _ _ _ it h h5 h6 (by omega) (by omega)
    ·exact Bs C lo hi V _ _ _ _ it h h5 h6 (by omega) (by omega)
theorem Bs(C:Int)(lo hi:Nat):∀(l:List S)(up nx loop:Int)(n:Nat)(it:Item),it∈itL C up nx loop n l->okI lo hi nx->(loop=0\/((lo:Int)+1<=loop/\loop<=hi))->lo<=n->n+QY l<=hi->
  okI lo hi it.next/\(it.loop=0\/((lo:Int)+1<=it.loop/\it.loop<=hi))
 |[],up,nx,loop,n,it,h,h1,h2,h3,h4=>by rw[itL]at h;cases h
 | t::r,up,nx,loop,n,it,h,h1,h2,h3,h4=>by
   rw[itL]at h;rw[QY]at h4;rcases x8e.1 h with h|h
   ·refine q8p C lo hi t _ _ _ _ it h ?_ h2 h3 (by omega);cases r with
    |nil=>exact h1
    | cons u r=>
      have:1<=QY (u::r):=by rw[QY,VA];omega
      exact .inr ⟨by simp;omega,by simp;omega⟩
   ·exact Bs C lo hi r _ _ _ _ it h h1 h2 (by omega) (by omega)
end
theorem Bh:∀(l:List S)(v:S),v∈l->v∈flL l
 |[],v,h=>by cases h
 | t::r,v,h=>by
   rw[flL];rcases x8r.1 h with rfl|h
   .refine x8e.2 (.inl ?_);rw[x1k];exact x8p
   .exact x8e.2 (.inr (Bh r v h))
structure RI where
 s:S
 deep:Int
 zc:Int
 V:Bool
def RI.cells(i:RI):List AV:=i.s.cells++[.int .i64 i.deep,.int .i64 i.zc,.bool i.V]
def x0f(l:List RI):AV:=.sl (l.map fun i=>.agg i.cells)
def flF:Nat->Int->Bool->List S->List RI->List RI
 |0,i,e,l,out=>l.foldl (fun o s=>if o.length<=200 then o++[⟨s,13,i,e⟩]else o) out
 |m+1,i,e,l,out=>l.foldl (fun o s=>if o.length<=200 then flF m s.id true s.V (flF m s.id false s.M (o++[⟨s,13-((m+1:Nat):Int),i,e⟩]))else o) out
theorem DE:∀(m:Nat)(i:Int)(e:Bool)(l:List S)(out:List RI),out.length<=(flF m i e l out).length/\(flF m i e l out).length<=max out.length 201
 |0,i,e,[],out=>by show out.length<=out.length/\_;exact⟨x9z _,Nat.le_max_left _ _⟩
 |m+1,i,e,[],out=>by show out.length<=out.length/\_;exact⟨x9z _,Nat.le_max_left _ _⟩
 | 0,i,e,s::r,out=>by
   have h:=DE 0 i e r (if out.length<=200 then out++[⟨s,13,i,e⟩]else out);show out.length<=(flF 0 i e r (if out.length<=200 then out++[⟨s,13,i,e⟩]else out)).length/\(flF 0 i e r (if out.length<=200 then out++[⟨s,13,i,e⟩]else out)).length<=_;split at h
   .rw [if_pos (by assumption)];simp only[x8d,x9h]at h;omega
   .rw [if_neg (by assumption)];exact h
 | m+1,i,e,s::r,out=>by
   have h:=DE (m+1) i e r (if out.length<=200 then flF m s.id true s.V (flF m s.id false s.M (out++[⟨s,13-((m+1:Nat):Int),i,e⟩]))else out);show out.length<=(flF (m+1) i e r (if out.length<=200 then flF m s.id true s.V (flF m s.id false s.M (out++[⟨s,13-((m+1:Nat):Int),i,e⟩]))else out)).length/\(flF (m+1) i e r (if out.length<=200 then flF m s.id true s.V (flF m s.id false s.M (out++[⟨s,13-((m+1:Nat):Int),i,e⟩]))else out)).length<=_;split at h
   .rw [if_pos (by assumption)];have n:=DE m s.id false s.M (out++[⟨s,13-((m+1:Nat):Int),i,e⟩]);have o:=DE m s.id true s.V (flF m s.id false s.M (out++[⟨s,13-((m+1:Nat):Int),i,e⟩]));simp only[x8d,x9h]at n;omega
   .rw [if_neg (by assumption)];exact h
mutual
def fuS(d i:Int)(e:Bool):S->List RI
 |.mk id kind Z name C x has args M V=>⟨.mk id kind Z name C x has args M V,d,i,e⟩::(fuL (d+1) id false M++fuL (d+1) id true V)
def fuL(d i:Int)(e:Bool):List S->List RI
 |[]=>[]
 |t::r=>fuS d i e t++fuL d i e r
end
def Iw(d i:Int)(e:Bool)(t:S):fuS d i e t=⟨t,d,i,e⟩::(fuL (d+1) t.id false t.M++fuL (d+1) t.id true t.V):=by
 cases t;rw[fuS];rfl
mutual
theorem x3r(d i:Int)(e:Bool):∀t:S,(fuS d i e t).map RI.s=flS t
 | .mk id kind Z name C x has args M V=>by
   rw[fuS,flS,x9f,x8i,T4 _ _ _ M,T4 _ _ _ V]
theorem T4(d i:Int)(e:Bool):∀l:List S,(fuL d i e l).map RI.s=flL l
 |[]=>by rw[fuL,flL];rfl
 |t::r=>by rw[fuL,flL,x8i,x3r _ _ _ t,T4 _ _ _ r]
end
def MA(d i:Int)(e:Bool)(l:List S):(fuL d i e l).length=QY l:=by
 rw[<-J6,<-T4 d i e l,x8g]
def PM{nest seen m:Int}{s:S}(h:D3 nest seen s=some m):oneOk s=true/\s.id=seen+1/\∃l,YE (nest+1) (seen+1) s.M=some l/\YE (nest+1) l s.V=some m:=by
 rw[Oj]at h;split at h
 .cases h
 split at h
 .cases h
 rename_i q;cases o:namesB s.Z<;>rw[o]at h
 .cases h
 cases n:VV s<;>rw[n]at h
 .cases h
 simp only[x9y]at h;split at h
 .rename_i l p;exact⟨by unfold oneOk;rw[o,n];rfl,by omega,l,p,h⟩
 .cases h
def HB{nest seen m:Int}{s:S}{r:List S}(h:YE nest seen (s::r)=some m):nest<=12/\∃l,D3 nest seen s=some l/\YE nest l r=some m:=by
 rw[YE]at h;split at h
 .cases h
 rename_i o;split at h
 .rename_i l n;exact⟨by omega,l,n,h⟩
 .cases h
mutual
theorem x1h(d i:Int)(e:Bool):∀(t:S){n m:Int},d<=12->D3 d n t=some m->∀x∈fuS d i e t,x.deep<=12/\oneOk x.s=true
 | .mk id kind Z name C x has args M V,n,m,hd,h,y,hy=>by
   obtain⟨h1,_,m1,h2,h3⟩:=PM h;rw[fuS]at hy;rcases x8r.1 hy with rfl|hy
   ·exact⟨hd,h1⟩
   ·rcases x8e.1 hy with hy|hy
    ·exact Sf _ _ _ M h2 y hy
    ·exact Sf _ _ _ V h3 y hy
theorem Sf(d i:Int)(e:Bool):∀(l:List S){n m:Int},YE d n l=some m->∀x∈fuL d i e l,x.deep<=12/\oneOk x.s=true
 |[],n,m,h,y,hy=>by rw[fuL]at hy;cases hy
 | t::r,n,m,h,y,hy=>by
   obtain⟨h1,m1,h2,h3⟩:=HB h;rw[fuL]at hy;rcases x8e.1 hy with hy|hy
   ·exact x1h _ _ _ t h1 h2 y hy
   ·exact Sf _ _ _ r h3 y hy
end
def x1j:∀(k:Nat)(l:List S)(i:Int)(e:Bool)(out:List RI)(seen m:Int),YE (13-(k:Int)) seen l=some m->out.length+QY l<=200->flF k i e l out=out++fuL (13-(k:Int)) i e l:=by
 intro k;induction k with
 | zero=>
   intro l i e out seen m h n;cases l with
   |nil=>rw[fuL,x9c];rfl
   | cons s r=>
     have:=(HB h).1;simp at this
 | succ k u=>
   intro l;induction l with
   |nil=>intro i e out seen m h n;rw[fuL,x9c];rfl
   | cons s r o=>
     intro i e out seen m h n;obtain⟨x,y,v,w⟩:=HB h;obtain⟨_,_,z,q,t⟩:=PM v;have p:(13:Int)-((k+1:Nat):Int)+1=13-(k:Int):=by omega
     rw[p]at q t;rw[QY,VA]at n;show flF (k+1) i e r (if out.length<=200 then flF k s.id true s.V (flF k s.id false s.M (out++[⟨s,13-((k+1:Nat):Int),i,e⟩]))else out)=_;rw[if_pos (by omega),u s.M s.id false _ _ _ q (by simp;omega),u s.V s.id true _ _ _ t (by simp[MA];omega),o i e _ _ _ w (by simp[MA];omega),fuL,Iw,p];simp
def ZR(f:Pr):List RI:=flF 12 0 false f.body []
def DM(l:List Pr)(out:List RI):List RI:=l.foldl (fun o f=>if o.length<=200 then o++ZR f else o) out
def allR(p:Pg):List RI:=DM p.A []
def flatU(f:Pr):List RI:=fuL 1 0 false f.body
theorem K7:∀(l:List Pr){n m:Int},ZQ n l=some m->∀f∈l,GN f=true/\∃a b,YE 1 a f.body=some b
 |[],_,_,_,f,o=>by cases o
 | g::r,n,m,h,f,o=>by
   rw[ZQ]at h;cases p:GN g<;>rw[p]at h
   .cases h
   simp only[x9y]at h;split at h
   .rename_i s q;rcases x8r.1 o with rfl|o
    .exact ⟨p,_,_,q⟩
    .exact K7 r h f o
   .cases h
def W8{p:Pg}(h:KT p=true):p.F.length<=16/\p.A.length<=16/\namesB p.F=true/\∀f∈p.A,GN f=true/\∃a b,YE 1 a f.body=some b:=by
 unfold KT at h;simp only[x9w,z0w]at h;obtain⟨⟨⟨o,q⟩,r⟩,l⟩:=h;refine⟨o,q,r,?_⟩;cases n:ZQ 0 p.A with
 |none=>rw[n]at l;cases l
 |some m=>exact K7 p.A n
theorem Ud:∀(l:List Pr)(f:Pr),f∈l->QY f.body<=cntP l
 |[],f,h=>by cases h
 | g::r,f,h=>by
   rw[cntP];rcases x8r.1 h with rfl|h
   .omega
   .have:=Ud r f h;omega
def Ut{p:Pg}(h:KT p=true){f:Pr}(l:f∈p.A):ZR f=flatU f:=by
 obtain⟨_,_,_,n⟩:=W8 h;obtain⟨_,a,b,o⟩:=n f l;have q:=(WE h).2.2;have r:=Ud _ f l;have:=x1j 12 f.body 0 false [] a b o (by simp;omega);simpa[ZR,flatU]using this
theorem TC:∀(l:List Pr)(out:List RI),(∀f∈l,ZR f=flatU f)->out.length+cntP l<=200->DM l out=out++l.flatMap flatU
 |[],out,_,_=>by show out=_;simp
 | f::r,out,h,hl=>by
   rw[cntP]at hl;show DM r (if out.length<=200 then out++ZR f else out)=_;have e:=MA 1 0 false f.body;rw[if_pos (by omega),h f x8p,TC r _ (fun g n=>h g (x8b _ n)) (by simp only[flatU,x8d,e];omega)];simp
def Em{p:Pg}(h:KT p=true):allR p=p.A.flatMap flatU:=by
 have:=TC p.A [] (fun f l=>Ut h l) (by have:=(WE h).2.2;simpa using this);simpa[allR]using this
def q7f{p:Pg}(h:KT p=true):∀x∈p.A.flatMap flatU,x.deep<=12/\oneOk x.s=true:=by
 intro x l;obtain⟨f,q,l⟩:=x9m.1 l;obtain⟨_,_,_,n⟩:=W8 h;obtain⟨_,a,b,o⟩:=n f q;exact Sf 1 0 false f.body o x l
theorem X8:∀(l:List Pr){n:Nat}{m:Int},ZQ n l=some m->(l.flatMap fun f=>flL f.body).map S.id=KO n (cntP l)
 |[],n,m,_=>by rw[cntP];rfl
 | g::r,n,m,h=>by
   rw[ZQ]at h;cases t:GN g<;>rw[t]at h
   .cases h
   simp only[x9y]at h;split at h
   .rename_i u o;have q:=JM _ _ g.body o;have p:ZQ ((n+QY g.body:Nat):Int) r=some m:=by rw[<-h,q];rfl
    have s:=X8 r p;rw[z0e,x8i,Xp 1 g.body o,s,cntP,FU]
   .cases h
def x0a(l:List Pr):(l.flatMap flatU).map RI.s=l.flatMap fun f=>flL f.body:=by
 induction l with
 |nil=>rfl
 | cons f r h=>
   rw[z0e,z0e,x8i,h];congr 1;exact T4 _ _ _ _
def Qg(l:List Pr):(l.flatMap flatU).length=cntP l:=by
 induction l with
 |nil=>rfl
 |cons f r h=>rw[z0e,x8d,h,cntP];congr 1;exact MA _ _ _ _
def q1j{p:Pg}(h:KT p=true){k:Nat}{x:RI}(r:(p.A.flatMap flatU)[k]?=some x):x.s.id=(k:Int)+1:=by
 unfold KT at h;simp only[x9w,z0w]at h;cases t:ZQ 0 p.A with
 |none=>rw[t]at h;cases h.2
 | some m=>
   have q:=X8 p.A (n:=0) t;rw[<-x0a]at q;have l:(((p.A.flatMap flatU).map RI.s).map S.id)[k]?=some x.s.id:=by simp[r]
   rw[q]at l;unfold KO at l;have o:k<cntP p.A:=by rw[<-Qg];exact(x8t.1 r).1
   rw[x8n,List.getElem?_range' o]at l;simp at l;omega
def riH(t:Nat)(out:List RI):Heap:=[(2000,.own t 16 (out.map fun i=>.agg i.cells))]
def q9u{t:Nat}{out:List RI}{x:RI}:riH t (out++[x])=[(2000,.own t 16 ((out.map fun i=>.agg i.cells)++[.agg x.cells]))]:=by simp[riH]
def Ll(l:List RI):(l.map fun i=>AV.agg i.cells).length=l.length:=x8g _
def q2u{l:List S}{o:List RI}(n:j<l.length)(h:o.length<=200):flF 0 i e (l.drop j) o=flF 0 i e (l.drop (j+1)) (o++[⟨l[j],13,i,e⟩]):=by
 rw[QD n];show flF 0 i e (l.drop (j+1)) (if o.length<=200 then _ else _)=_;rw[if_pos h]
def q7o{l:List S}{o:List RI}(n:j<l.length)(h:o.length<=200):flF (m+1) i e (l.drop j) o=flF (m+1) i e (l.drop (j+1)) (flF m l[j].id true l[j].V (flF m l[j].id false l[j].M (o++[RI.mk l[j] (13-((m+1:Nat):Int)) i e]))):=by
 rw[QD n];show flF (m+1) i e (l.drop (j+1)) (if o.length<=200 then _ else _)=_;rw[if_pos h]
theorem Ul:∀(m:Nat){i:Int}{e:Bool}{l:List S}{o:List RI},¬o.length<=200->flF m i e l o=o
 |0,i,e,[],o,_=>rfl
 |m+1,i,e,[],o,_=>rfl
 | 0,i,e,s::r,o,h=>by
   show flF 0 i e r (if o.length<=200 then _ else o)=o;rw[if_neg h];exact Ul 0 h
 | m+1,i,e,s::r,o,h=>by
   show flF (m+1) i e r (if o.length<=200 then _ else o)=o;rw[if_neg h];exact Ul (m+1) h
def I5(m:Nat){o:List RI}:flF m i e [] o=o:=by cases m<;>rfl
def We:∀(m:Nat)(_:m<=12)(l:List S)(i:Int)(e:Bool)(out:List RI),
  aH 49 [.p (eSs l),.j (13-(m:Int)),.j i,.p (.bool e),.hd 2000 0 out.length] (riH 67 out) (.hd 2000 0 (flF m i e l out).length) (riH 67 (flF m i e l out)):=by
 intro m;induction m with
 | zero=>
   intro _ l i e out;have r:=S.avs_len l;refine sK JO func49 ?_;conv=>whnf
   skip
   refine lI (fun x:Nat×List RI=>⟨[(0,.p (eSs l)),(1,.j (13-((0:Nat):Int))),(2,.j i),(3,.p (.bool e)),(4,.hd 2000 0 x.2.length),(11,.j x.1)],riH 67 x.2⟩) (fun x=>x.1<=l.length/\flF 0 i e (l.drop x.1) x.2=flF 0 i e l out) (fun x=>l.length-x.1) (0,out) ⟨x8m _,rfl⟩ ?_;rintro⟨j,o⟩ ⟨q,h⟩;simp only at q h⊢;have s:=Ll o;rcases x8a j l.length with n|n
   .conv=>whnf
    repeat' ((first|(refine gX ?_;intros)|refine pA 1 232 (by simp) ?_|(apply bD<;>intro _<;>try omega))<;>conv=>whnf)
    .exact ⟨(j+1,o++[⟨l[j],13,i,e⟩]),⟨n,by rw[<-h,q2u n (by omega)]⟩,by simp only;omega,Le.of_eq (by simp only[q9u,x8d,x9h];rfl)⟩
    .rw [Ul 0 (by omega)]at h;exact⟨_,.refl _,by rw[<-h];exact⟨rfl,rfl⟩⟩
   .conv=>whnf
    repeat' ((first|(refine iM fun _=>?_)|(apply bD<;>intro _<;>try omega))<;>conv=>whnf)
    rw[x9v n,I5]at h;exact⟨_,.refl _,by rw[<-h];exact⟨rfl,rfl⟩⟩
 | succ m t=>
   intro u l i e out;have r:=S.avs_len l;refine sK JO func49 ?_;conv=>whnf
   skip
   refine lI (fun x:Nat×List RI=>⟨[(0,.p (eSs l)),(1,.j (13-((m+1:Nat):Int))),(2,.j i),(3,.p (.bool e)),(4,.hd 2000 0 x.2.length),(11,.j x.1)],riH 67 x.2⟩) (fun x=>x.1<=l.length/\flF (m+1) i e (l.drop x.1) x.2=flF (m+1) i e l out) (fun x=>l.length-x.1) (0,out) ⟨x8m _,rfl⟩ ?_;rintro⟨j,o⟩ ⟨q,h⟩;simp only at q h⊢;have s:=Ll o;rcases x8a j l.length with n|n
   .conv=>whnf
    repeat' ((first|(refine gX ?_;intros)|refine dA ?_|refine pA 1 232 (by simp) ?_|(apply bD<;>intro _<;>try omega))<;>conv=>whnf)
    .refine cJ [(2000,2000)] 0 (t (by omega) l[j].M l[j].id false (o++[RI.mk l[j] (13-((m+1:Nat):Int)) i e])) ?_ (ha:=(x9d (x9j _) (x9d (z3x (Sub.int (by omega))) (x9d (x9j _) (x9d (z3x (Sub.ff rfl)) (x9d (z3y (by rw[x8d];rfl)) z1y)))))) (hH:=by exact x9b (j:=2000) rfl rfl (CSub.of_eq (by rw[x8i];first|done|rfl)) z0r);rintro l' H' ⟨rfl,rfl⟩;conv=>whnf
     repeat' ((first|refine dA ?_|(refine gX ?_;intros))<;>conv=>whnf)
     refine cJ [(2000,2000)] 0 (t (by omega) l[j].V l[j].id true (flF m l[j].id false l[j].M (o++[RI.mk l[j] (13-((m+1:Nat):Int)) i e]))) ?_ (ha:=(x9d (x9j _) (x9d (z3x (Sub.int (by omega))) (x9d (x9j _) (x9d (z3x (Sub.tt rfl)) (x9d (x9j _) z1y)))))) (hH:=by exact x9b (j:=2000) rfl rfl (CSub.refl _) z0r);rintro l' H' ⟨rfl,rfl⟩;conv=>whnf
     repeat' (refine wI ?_;conv=>whnf)
     exact nX (j+1,flF m l[j].id true l[j].V (flF m l[j].id false l[j].M (o++[RI.mk l[j] (13-((m+1:Nat):Int)) i e]))) ⟨n,by rw[<-h,q7o n (by omega)]⟩
    .rw [Ul (m+1) (by omega)]at h;exact⟨_,.refl _,by rw[<-h];exact⟨rfl,rfl⟩⟩
   .conv=>whnf
    repeat' ((first|(refine iM fun _=>?_)|(apply bD<;>intro _<;>try omega))<;>conv=>whnf)
    rw[x9v n,I5]at h;exact⟨_,.refl _,by rw[<-h];exact⟨rfl,rfl⟩⟩
def YB(f:Pr):aP 27 [.agg f.cells] (x0f (ZR f)):=by
 refine sC MV func27 ?_;conv=>whnf
 skip
 refine CallK.nil 5 67 16 rfl (.cons rfl (.cons rfl (.cons rfl (.cons rfl (.row .nil))))) ?_;refine cJ [(2000,5)] 0 (We 12 (by omega) f.body 0 false []) ?_;rintro l' H' ⟨rfl,rfl⟩;conv=>whnf
 exact⟨_,.hd rfl (by simp[ZR]),rfl⟩
def CD{l:List Pr}{o:List RI}(n:j<l.length)(h:o.length<=200):DM (l.drop j) o=DM (l.drop (j+1)) (o++ZR l[j]):=by
 rw[QD n];show DM (l.drop (j+1)) (if o.length<=200 then _ else _)=_;rw[if_pos h]
theorem Hn:∀{l:List Pr}{o:List RI},¬o.length<=200->DM l o=o
 |[],o,_=>rfl
 | f::r,o,h=>by
   show DM r (if o.length<=200 then _ else o)=o;rw[if_neg h];exact Hn h
def Qc(f:Pr):(ZR f).length<=201:=by
 have:=(DE 12 0 false f.body []).2;simpa[ZR]using this
def Uy(p:Pg):aP 80 [.agg p.cells] (x0f (allR p)):=by
 refine sC Q8 func80 ?_;conv=>whnf
 repeat' ((refine iM fun _=>?_)<;>conv=>whnf)
 have w:(p.A.map fun f=>AV.agg f.cells).length=p.A.length:=x8g _;refine lJ (fun x:Nat×List RI=>⟨[(3,.hd 1 0 x.2.length),(7,.p (.sl (p.A.map fun f=>.agg f.cells))),(8,.p (.int .i64 (p.A.map fun f=>AV.agg f.cells).length)),(9,.j x.1)],[(1,.own 67 16 (x.2.map fun i=>.agg i.cells))]⟩) (fun x=>x.1<=p.A.length/\x.2.length<=200/\DM (p.A.drop x.1) x.2=allR p) (fun x=>p.A.length-x.1) (0,[]) (lM [(1,.own 67 16 [])]) ⟨x8m _,x8m _,rfl⟩ ?_;rintro⟨j,o⟩ ⟨v,s,q⟩;simp only at v q s⊢;have z:=Ll o;rcases x8a j p.A.length with r|r
 .have t:=Qc p.A[j];have n:=fun(h:o.length<=200)=>CD r h;have u:=YB p.A[j];generalize b:ZR p.A[j]=L at t n u;have l:=Ll L;conv=>whnf
  repeat' ((first|(refine gX ?_;intros)|refine cP u ?_|refine AppK.mk (by simp) rfl (by rw[l];show(o.length+L.length)*232<=140737488355328;omega) (by rw[l];show o.length+L.length<=9223372036854775807;omega) (fun x a=>by obtain⟨y,_,rfl⟩:=x8s.1 a;exact⟨rfl,rfl⟩) ?_|(apply bD<;>intro _<;>try omega))<;>conv=>whnf)
  .refine ⟨_,.hd rfl (by simp),?_⟩;rw[<-q,n s,Hn (by simp;omega),<-x8i];rfl
  .exact ⟨(j+1,o++L),⟨r,by simp;omega,by rw[<-q,n s]⟩,by simp only;omega,Le.of_eq (by simp only[x8d,x8i,x8g];rfl)⟩
 .conv=>whnf
  repeat' (apply bD<;>intro _<;>first|omega|conv=>whnf)
  rw[x9v r]at q;refine⟨_,.hd rfl (by simp),?_⟩;rw[<-q];simp[x0f,DM]
structure MayF(p:Pg):Prop where
 gl:p.F.length<=16
 pl:p.A.length<=16
 gn:namesB p.F=true
 pr:∀f∈p.A,f.B.length<=8/\f.zd.length<=16/\isName f.name=true/\namesB f.zd=true/\namesB f.fin=true/\(f.B.all fun a=>isName a.name)=true
 len:(allR p).length<=200
 its:∀(k:Nat)(x:RI),(allR p)[k]?=some x->x.s.id=(k:Int)+1/\x.deep<=12/\oneOk x.s=true
def WB{p:Pg}(h:KT p=true):MayF p:=by
 obtain⟨n,o,q,r⟩:=W8 h;refine⟨n,o,q,fun f s=>KH.1 (r f s).1,?_,fun k x l=>?_⟩
 .rw [Em h,Qg];exact(WE h).2.2
 .rw [Em h]at l;exact⟨q1j h l,q7f h x (x9x l)⟩
def Pr0:Pr:=⟨[],[],[],[],[]⟩
def O9(p:Pg)(n:Str):Pr×Bool:=match p.A.find? (fun f=>f.name==n)with
 |some f=>(f,true)
 |none=>(Pr0,false)
def OF:Sub (.agg [.str [],.nils,.nils,.nils,.nils]) (.agg Pr0.cells):=Sub.agg (SubL.cons (Sub.refl _) (SubL.cons Sub.nils (SubL.cons Sub.nils (SubL.cons Sub.nils (SubL.cons Sub.nils SubL.nil)))))
def NB:List Str->Nat
 |[]=>0
 |s::r=>1+s.length+NB r
mutual
def gXx:X->Nat
 |.mk _ _ name kids=>1+name.length+gXs kids
def gXs:List X->Nat
 |[]=>0
 |x::r=>gXx x+gXs r
end
def H9:List Arg->Nat
 |[]=>0
 |a::r=>gXx a.x+(1+a.name.length)+H9 r
mutual
def gS:S->Nat
 |.mk _ _ Z name C x _ args M V=>gXx x+NB Z+(1+name.length)+(1+C.length)+H9 args+gL M+gL V
def gL:List S->Nat
 |[]=>0
 |s::r=>gS s+gL r
end
def q0l:List Param->Nat
 |[]=>0
 |a::r=>1+a.name.length+q0l r
def gPr(f:Pr):Nat:=1+f.name.length+NB f.zd+NB f.fin+q0l f.B+gL f.body
def T5:List Pr->Nat
 |[]=>0
 |f::r=>gPr f+T5 r
def gPg(p:Pg):Nat:=NB p.F+T5 p.A
def x3t(s:S):gS s=gXx s.x+NB s.Z+(1+s.name.length)+(1+s.C.length)+H9 s.args+gL s.M+gL s.V:=by
 cases s;rw[gS];rfl
theorem Rs:∀l:List Str,q0c l<=NB l
 |[]=>x9z _
 |s::r=>by have:=Rs r;simp only[q0c,NB];omega
mutual
theorem x6d:∀x:X,wX x<=gXx x
 |.mk _ _ name kids=>by have:=x2m kids;rw[wX,gXx];omega
theorem x2m:∀l:List X,wXs l<=gXs l
 |[]=>by rw[wXs];omega
 |x::r=>by have:=x6d x;have:=x2m r;rw[wXs,gXs];omega
end
theorem q0p:∀l:List Arg,Wl l<=H9 l
 |[]=>x9z _
 |a::r=>by have:=q0p r;have:=x6d a.x;simp only[Wl,H9];omega
mutual
theorem x8k:∀s:S,wS s<=gS s
 | .mk _ _ Z name C x _ args M V=>by
   have:=x6d x;have:=Rs Z;have:=q0p args;have:=x3j M;have:=x3j V;rw[wS,gS];omega
theorem x3j:∀l:List S,wL l<=gL l
 |[]=>by rw[wL];omega
 |s::r=>by have:=x8k s;have:=x3j r;rw[wL,gL];omega
end
theorem q7z:∀l:List Param,x3y l<=q0l l
 |[]=>x9z _
 |a::r=>by have:=q7z r;simp only[x3y,q0l];omega
theorem q7w:∀l:List Pr,x0p l<=T5 l
 |[]=>x9z _
 | f::r=>by
   have:=q7w r;have:=Rs f.zd;have:=Rs f.fin;have:=q7z f.B;have:=x3j f.body;simp only[x0p,T5,wPr,gPr];omega
def x6f(p:Pg):wPg p<=gPg p:=by
 have:=Rs p.F;have:=q7w p.A;unfold wPg gPg;omega
def XJ(x:Int):Int:=if x>20000 then 20001 else x
def ZH{a b:Int}(h:0<=b):XJ (XJ a+b)=XJ (a+b):=by
 unfold XJ;split<;>split<;>(try split)<;>omega
def ZZ{a:Int}(h:0<=a):0<=XJ a/\XJ a<=20001:=by
 unfold XJ;split<;>omega
def Pk{a:Int}(h:a<=20001):XJ a=a:=by
 unfold XJ;split<;>omega
def YI{a b:Int}(h:a>20000)(l:a<=20001)(n:0<=b):a=XJ (a+b):=by
 unfold XJ;split<;>omega
def QS(s:Str)(n:Int)(h:0<=n/\n<=20001):aP 35 [.str s,.int .i64 n] (.int .i64 (XJ (n+(1+s.length:Nat)))):=by
 refine sC GI func35 ?_;conv=>whnf
 repeat' ((first|(refine gX ?_;intros)|(apply bD<;>intro _<;>try omega))<;>conv=>whnf)
 all_goals exact RetK.int (by unfold XJ;(repeat' split)<;>omega)
def XT(l:List Str)(n:Int)(t:0<=n/\n<=20001):aP 34 [eStrs l,.int .i64 n] (.int .i64 (XJ (n+NB l))):=by
 refine sC GF func34 ?_;conv=>whnf
 skip
 have u:(l.map AV.str).length=l.length:=x8g _;refine lI (fun x:Nat×Int=>⟨[(0,.p (eStrs l)),(1,.j x.2),(5,.j x.1)],[]⟩) (fun x=>x.1<=l.length/\(0<=x.2/\x.2<=20001)/\XJ (x.2+NB (l.drop x.1))=XJ (n+NB l)) (fun x=>l.length-x.1) (0,n) ⟨x8m _,t,rfl⟩ ?_;rintro⟨j,m⟩ ⟨r,o,h⟩;simp only at r o h⊢;rcases x8a j l.length with q|q
 .rw [x9t q,NB]at h;conv=>whnf
  repeat' ((first|(refine gX ?_;intros)|refine cP (QS _ _ o) ?_|(apply bD<;>intro _<;>try omega))<;>conv=>whnf)
  .have s:XJ (XJ (m+(1+l[j].length:Nat))+NB (l.drop (j+1)))=XJ (n+NB l):=by
    rw[ZH (by omega),<-h];congr 1;omega
   exact nX (j+1,XJ (m+(1+l[j].length:Nat))) ⟨by simp only;omega,ZZ (by omega),s⟩
  .exact RetK.int (by rw[<-h];exact YI (by omega) o.2 (by omega))
 .rw [x9v q,NB]at h;conv=>whnf
  repeat' ((first|(refine iM fun _=>?_)|(apply bD<;>intro _<;>try omega))<;>conv=>whnf)
  exact RetK.int (by rw[<-h,Pk (by omega)];simp)
def YX:∀(k:Nat)(x:X)(_:gXx x<k)(n:Int)(_:0<=n/\n<=20001),aP 57 [.agg x.cells,.int .i64 n] (.int .i64 (XJ (n+gXx x))):=by
 intro k;induction k with
 |zero=>intro x h;omega
 | succ k v=>
   intro x d n c;have u:gXx x=1+x.name.length+gXs x.kids:=by cases x;rw[gXx];rfl
   have b:=X.avs_len x.kids;refine sC GE func57 ?_;conv=>whnf
   repeat' (refine cP (QS _ _ c) ?_;conv=>whnf)
   refine lI (fun y:Nat×Int=>⟨[(1,.j y.2),(2,.p (.ip x.cells)),(5,.j y.1)],[]⟩) (fun y=>y.1<=x.kids.length/\(0<=y.2/\y.2<=20001)/\XJ (y.2+gXs (x.kids.drop y.1))=XJ (n+gXx x)) (fun y=>x.kids.length-y.1) (0,XJ (n+(1+x.name.length:Nat))) ⟨x8m _,ZZ (by omega),by
    show XJ (XJ (n+(1+x.name.length:Nat))+gXs x.kids)=_;rw[ZH (by omega),u];congr 1;omega⟩ ?_
   rintro⟨j,m⟩ ⟨w,s,o⟩;simp only at w s o⊢;rcases x8a j x.kids.length with q|q
   .rw [x9t q,gXs]at o;have t:gXx x.kids[j]<k:=by
     have:∀(l:List X)(y:X),y∈l->gXx y<=gXs l:=fun l=>by
      induction l with
      |nil=>intro y h;cases h
      | cons a r v=>
        intro y h;rw[gXs];rcases x8r.1 h with rfl|h
        .omega
        .have:=v y h;omega
     have:=this x.kids _ (x8o q);omega
    conv=>whnf
    repeat' ((first|(refine gX ?_;intros)|refine cP (v (x.kids[j]'q) t m s) ?_|(apply bD<;>intro _<;>try omega))<;>conv=>whnf)
    .have z:XJ (XJ (m+gXx x.kids[j])+gXs (x.kids.drop (j+1)))=XJ (n+gXx x):=by
      rw[ZH (by omega),<-o];congr 1;omega
     exact nX (j+1,XJ (m+gXx x.kids[j])) ⟨by simp only;omega,ZZ (by omega),z⟩
    .exact RetK.int (by rw[<-o];exact YI (by omega) s.2 (by omega))
   .rw [x9v q,gXs]at o;conv=>whnf
    repeat' ((first|(refine iM fun _=>?_)|(apply bD<;>intro _<;>try omega))<;>conv=>whnf)
    exact RetK.int (by rw[<-o,Pk (by omega)];simp)
theorem q6y:∀(l:List S)(y:S),y∈l->gS y<=gL l
 |[],y,h=>by cases h
 | a::r,y,h=>by
   rw[gL];rcases x8r.1 h with rfl|h
   .omega
   .have:=q6y r y h;omega
def UI:∀(k:Nat)(l:List S)(_:gL l<k)(n:Int)(_:0<=n/\n<=20001),aP 36 [eSs l,.int .i64 n] (.int .i64 (XJ (n+gL l))):=by
 intro k;induction k with
 |zero=>intro l h;omega
 | succ k v=>
   intro l L n F;have E:=S.avs_len l;refine sC GH func36 ?_;conv=>whnf
   skip
   refine lI (fun y:Nat×Int=>⟨[(0,.p (eSs l)),(1,.j y.2),(5,.j y.1)],[]⟩) (fun y=>y.1<=l.length/\(0<=y.2/\y.2<=20001)/\XJ (y.2+gL (l.drop y.1))=XJ (n+gL l)) (fun y=>l.length-y.1) (0,n) ⟨x8m _,F,rfl⟩ ?_;rintro⟨j,m⟩ ⟨g,z,q⟩;simp only at g z q⊢;rcases x8a j l.length with u|u;rotate_left 1
   .rw [x9v u,gL]at q;conv=>whnf
    repeat' ((first|(refine iM fun _=>?_)|(apply bD<;>intro _<;>try omega))<;>conv=>whnf)
    exact RetK.int (by rw[<-q,Pk (by omega)];simp)
   rw[x9t u,gL]at q;have G:=q6y l _ (x8o u);have b:=x3t l[j];have H:=ZZ (a:=m+gXx l[j].x) (by omega);have I:=ZZ (a:=XJ (m+gXx l[j].x)+NB l[j].Z) (by omega);have J:=ZZ (a:=XJ (XJ (m+gXx l[j].x)+NB l[j].Z)+(1+l[j].name.length:Nat)) (by omega);conv=>whnf
   repeat' ((first|(refine gX ?_;intros)|refine dA ?_|refine cP (YX (gXx l[j].x+1) l[j].x (by omega) m z) ?_ (ha:=.cons (Sub.refl _) (.cons (Sub.refl _) .nil))|refine cP (XT l[j].Z _ H) ?_|refine cP (QS l[j].name _ I) ?_|refine cP (QS l[j].C _ J) ?_|(apply bD<;>intro _<;>try omega))<;>conv=>whnf)
   rotate_left 1
   .exact RetK.int (by rw[<-q];exact YI (by omega) z.2 (by omega))
   have d:=ZZ (a:=XJ (XJ (XJ (m+gXx l[j].x)+NB l[j].Z)+(1+l[j].name.length:Nat))+(1+l[j].C.length:Nat)) (by omega);have c:XJ (XJ (XJ (XJ (XJ (m+gXx l[j].x)+NB l[j].Z)+(1+l[j].name.length:Nat))+(1+l[j].C.length:Nat))+(H9 l[j].args+(gL l[j].M+gL l[j].V+gL (l.drop (j+1))):Nat))=XJ (n+gL l):=by
    rw[ZH (by omega),z4t,ZH (by omega),z4t,ZH (by omega),z4t,ZH (by omega),<-q,b];congr 1;omega
   generalize XJ (XJ (XJ (XJ (m+gXx l[j].x)+NB l[j].Z)+(1+l[j].name.length:Nat))+(1+l[j].C.length:Nat))=m0 at d c⊢;have D:(l[j].args.map fun a=>AV.agg a.cells).length=l[j].args.length:=x8g _;refine lI (fun y:Nat×Int=>⟨[(0,.p (eSs l)),(1,.j y.2),(5,.j j),(6,.p (.ip l[j].cells)),(7,.j y.1)],[]⟩) (fun y=>y.1<=l[j].args.length/\(0<=y.2/\y.2<=20001)/\XJ (y.2+(H9 (l[j].args.drop y.1)+(gL l[j].M+gL l[j].V+gL (l.drop (j+1))):Nat))=XJ (n+gL l)) (fun y=>l[j].args.length-y.1) (0,m0) ⟨x8m _,d,c⟩ ?_;rintro⟨a,o⟩ ⟨A,r,s⟩;simp only at A r s⊢;have fin:XJ (o+(gL l[j].M+gL l[j].V+gL (l.drop (j+1)):Nat))=XJ (n+gL l)->(0<=XJ (XJ (o+gL l[j].M)+gL l[j].V)/\XJ (XJ (o+gL l[j].M)+gL l[j].V)<=20001)/\XJ (XJ (XJ (o+gL l[j].M)+gL l[j].V)+gL (l.drop (j+1)))=XJ (n+gL l):=fun h=>by
    have:=ZZ (a:=o+gL l[j].M) (by omega);refine⟨ZZ (by omega),?_⟩;rw[ZH (by omega),z4t,ZH (by omega),<-h];congr 1;omega
   have f:=ZZ (a:=o+gL l[j].M) (by omega);have t:o>20000->XJ (o+(gL l[j].M+gL l[j].V+gL (l.drop (j+1)):Nat))=XJ (n+gL l):=fun h=>by
    rw[<-s,<-YI h r.2 (by omega),<-YI h r.2 (by omega)]
   rcases x8a a l[j].args.length with ha|ha;rotate_left 1
   .have B:XJ (o+(gL l[j].M+gL l[j].V+gL (l.drop (j+1)):Nat))=XJ (n+gL l):=by
     rw[x9v ha,H9,z1h]at s;exact s
    obtain⟨f1,f2⟩:=fin B;conv=>whnf
    repeat' ((first|(refine gX ?_;intros)|refine dA ?_|refine cP (v l[j].M (by omega) o r) ?_ (ha:=.cons (Sub.refl _) (.cons (Sub.refl _) .nil))|refine cP (v l[j].V (by omega) _ f) ?_ (ha:=.cons (Sub.refl _) (.cons (Sub.refl _) .nil))|(apply bD<;>intro _<;>try omega))<;>conv=>whnf)
    all_goals exact nX (j+1,XJ (XJ (o+gL l[j].M)+gL l[j].V)) ⟨by simp only;omega,f1,f2⟩
   rw[x9t ha,H9]at s;have K:=ZZ (a:=o+gXx l[j].args[a].x) (by omega);conv=>whnf
   repeat' ((first|(refine gX ?_;intros)|refine dA ?_|refine cP (YX (gXx l[j].args[a].x+1) l[j].args[a].x (by omega) o r) ?_ (ha:=.cons (Sub.refl _) (.cons (Sub.refl _) .nil))|refine cP (QS l[j].args[a].name _ K) ?_|refine cP (v l[j].M (by omega) o r) ?_ (ha:=.cons (Sub.refl _) (.cons (Sub.refl _) .nil))|refine cP (v l[j].V (by omega) _ f) ?_ (ha:=.cons (Sub.refl _) (.cons (Sub.refl _) .nil))|(apply bD<;>intro _<;>try omega))<;>conv=>whnf)
   .have w:XJ (XJ (XJ (o+gXx l[j].args[a].x)+(1+l[j].args[a].name.length:Nat))+(H9 (l[j].args.drop (a+1))+(gL l[j].M+gL l[j].V+gL (l.drop (j+1))):Nat))=XJ (n+gL l):=by
     rw[ZH (by omega),z4t,ZH (by omega),<-s];congr 1;omega
    exact nX (a+1,XJ (XJ (o+gXx l[j].args[a].x)+(1+l[j].args[a].name.length:Nat))) ⟨by simp only;omega,ZZ (by omega),w⟩
   .obtain ⟨f1,f2⟩:=fin (t (by omega));exact nX (j+1,XJ (XJ (o+gL l[j].M)+gL l[j].V)) ⟨by simp only;omega,f1,f2⟩
end Go.Ab
