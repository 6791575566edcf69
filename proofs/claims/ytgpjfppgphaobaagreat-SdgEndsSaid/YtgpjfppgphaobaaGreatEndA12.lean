/- The library's contracts at this seat's program, in plain words (printed by the kit's lay-plain.mjs). Conditions: none. -/
import Derived.Shelf.SlSortCmp.NoneTotal
import Derived.Ground.SlsfProg
import Derived.Test.YtgpjfppgphaobaaGreatEndA11
set_option linter.all false
set_option maxRecDepth 100000
set_option maxHeartbeats 16000000
open Nat (mod_lt)
namespace Go.Proofs
open Go.Shelf Tryz
def Tryz.laysF_ren:Go.Shelf.Ren:=⟨fun|6=>226|15=>150|14=>258|28=>200|29=>201|20=>275|21=>276|22=>277|23=>278|24=>279|25=>280|26=>281|27=>282|46=>289|47=>245|48=>246|49=>290|50=>291|57=>293|n=>n,fun|22=>100|24=>225|25=>268|3=>3|39=>210|0=>0|53=>249|55=>251|4=>4|46=>242|45=>241|50=>90|5=>5|9=>9|66=>281|70=>285|76=>303|77=>304|n=>n,fun|n=>n⟩
theorem kT11{α:Type}{x:Option α}{a b:α}(h:x=some a)(e:a=b:=by kernel_rfl):x=some b:=e▸h
def TC:Go.Proofs.SlLaysF0.n6 Tryz.prog Tryz.laysF_ren:=⟨by kernel_rfl,⟨f226.name,by decide,kT11 func226⟩,⟨f258.name,by decide,kT11 func258⟩,kT11 func150,⟨f275.name,by decide,kT11 func275⟩,⟨f276.name,by decide,kT11 func276⟩,⟨f277.name,by decide,kT11 func277⟩,⟨f278.name,by decide,kT11 func278⟩,⟨f279.name,by decide,kT11 func279⟩,⟨f280.name,by decide,kT11 func280⟩,⟨f281.name,by decide,kT11 func281⟩,⟨f282.name,by decide,kT11 func282⟩,kT11 func200,kT11 func201,⟨f289.name,by decide,kT11 func289⟩,kT11 func245,kT11 func246,⟨f290.name,by decide,kT11 func290⟩,⟨f291.name,by decide,kT11 func291⟩,⟨f293.name,by decide,kT11 func293⟩,underlying0,isAgg0,sizeOf0,zeroValue0,underlying3,isAgg3,sizeOf3,zeroValue3,underlying4,isAgg4,sizeOf4,zeroValue4,underlying5,isAgg5,sizeOf5,zeroValue5,underlying9,isAgg9,sizeOf9,zeroValue9,underlying100,isAgg100,sizeOf100,zeroValue100,underlying268,isAgg268,sizeOf268,zeroValue268,underlying210,isAgg210,sizeOf210,zeroValue210,underlying241,isAgg241,sizeOf241,zeroValue241,underlying242,isAgg242,sizeOf242,zeroValue242,underlying90,isAgg90,sizeOf90,zeroValue90,underlying249,isAgg249,sizeOf249,zeroValue249,underlying251,isAgg251,sizeOf251,zeroValue251,underlying281,isAgg281,sizeOf281,zeroValue281,underlying285,isAgg285,sizeOf285,zeroValue285,underlying303,isAgg303,sizeOf303,zeroValue303,underlying304,isAgg304,sizeOf304,zeroValue304⟩
end Go.Proofs
namespace Go.Ab
open Go.Proofs.Tryz
open Go.Proofs Go.Sort Go.RowKit Go.Lib Go.Shelf
variable {σ:Mem}
theorem Frm.grown{w w':World}(h:Frm (fun _=>False) w w'):∃q os,w'=grow (w.drewN q) os:=by
 obtain⟨u,C,m,A,B⟩:=w;obtain⟨l,t,j,o,r⟩:=w';obtain⟨y,z,a,c,f,b⟩:=h;simp only at y z a c f b;refine⟨j-m,l.extract u.size l.size,?_⟩;subst y z a;have e:m+(j-m)=j:=by omega
 show World.mk l t j o r=World.mk (u++l.extract u.size l.size) t (m+(j-m)) o r;rw[e];congr 1;apply Array.ext
 .simp;omega
 .intro i x g;by_cases v:i<u.size
  .have:=b i v id;rw[x6o x,x6o v]at this;rw[Array.getElem_append_left v];exact x8z this
  .rw [Array.getElem_append_right (by omega)];simp;congr 1;omega
def Zm:AV->Bool
 |.int .. => true
 |.str s=>decide (s.length<=maxLen)
 |_=>false
def vlC:AV->Value
 |.int k n=>.int k n
 |.str s=>.string ⟨s.toArray⟩
 |_=>undef
def N2{c:AV}(h:Zm c=true):Rep σ c (vlC c):=by
 cases c<;>first|exact .int _ _|exact .str _ (x7a h)|cases h
def AI{c:AV}{u:Value}(h:Zm c=true)(i:Rep σ c u):u=vlC c:=by
 cases i<;>first|rfl|cases h
def AO{c:AV}(h:Zm c=true):(vlC c).oneCell'=true:=by
 cases c<;>first|rfl|cases h
section
variable {α:Type}{cells:α->List AV}{k:Nat}
def q0j(q:∀x,(cells x).length=k)(t:∀x,∀c∈cells x,Zm c=true){l:List α}{vs:Array Value}(h:∀(m:Nat)(x:AV),(l.map fun s=>AV.agg (cells s))[m]?=some x->x.cells.length=k/\∀(j:Nat)(c:AV),x.cells[j]?=some c->∃u:Value,vs[m*k+j]?=some u/\Rep σ c u){m j:Nat}(r:m<l.length)(p:j<k):
  vs[m*k+j]?=((cells l[m]).map vlC)[j]?:=by
 have i:j<(cells l[m]).length:=by rw[q];exact p
 obtain⟨u,n,o⟩:=(h m (.agg (cells l[m])) (by simp[r])).2 j (cells l[m])[j] (x3e i);rw[n,x4q,x3e i,AI (t _ _ (x4h i)) o];rfl
def q0k(q:∀x,(cells x).length=k)(t:∀x,∀c∈cells x,Zm c=true){l:List α}{vs:Array Value}(h:∀(m:Nat)(r:m<l.length)(j:Nat),j<k->vs[m*k+j]?=((cells l[m]).map vlC)[j]?):∀(m:Nat)(x:AV),(l.map fun s=>AV.agg (cells s))[m]?=some x->x.cells.length=k/\∀(j:Nat)(c:AV),x.cells[j]?=some c->∃u:Value,vs[m*k+j]?=some u/\Rep σ c u:=by
 intro m x i;rw[x4q]at i;cases o:l[m]?with
 |none=>rw[o]at i;cases i
 | some s=>
   rw[o]at i;cases i;obtain⟨r,rfl⟩:=x4u.1 o;refine⟨q _,fun j c n=>?_⟩;have n:(cells l[m])[j]?=some c:=n;obtain⟨p,rfl⟩:=x4u.1 n;refine⟨vlC (cells l[m])[j],?_,N2 (t _ _ (x4h p))⟩;rw[h m r j (by rw[<-q l[m]];exact p),x4q,n];rfl
def Bn[Inhabited α](o:∀x,(cells x).length=k){d:Array α}{t:Nat}(h:t<d.size*k):(flatK (fun x=>(cells x).map vlC) k d)[t]?=((cells (d[t/k]'(z0s (by rw[z1x];exact h)))).map vlC)[t%k]?:=by
 have l:0<k:=by rcases Nat.eq_zero_or_pos k with i|i;subst i;omega;exact i
 have m:=get_flatK (fun x=>(cells x).map vlC) k d t h;have j:t/k<d.size:=z0s (by rw[z1x];exact h);rw[z1z _ t (by simpa using h),z1z d (t/k) j]at m;rw[x6o (by simpa using h),m];have n:t%k<((cells (d[t/k]'j)).map vlC).length:=by rw[x3a,o];exact mod_lt _ l
 rw[x3e n,z1z ((cells (d[t/k]'j)).map vlC) (t%k) n]
def Rv(l:∀x,∀c∈cells x,Zm c=true)(x:α):Rep σ (.agg (cells x)) (.agg ((cells x).map vlC).toArray):=by
 refine .agg _ _ (fun j=>((cells x).map vlC).toArray.getD j undef) (by simp) (fun j c i=>?_) (fun j c i=>?_);all_goals
  obtain⟨h,rfl⟩:=x4u.1 i
 .simp [h]
 .simpa [h]using N2 (σ:=σ) (l _ _ (x4h h))
def q0e[Inhabited α](I:∀x,(cells x).length=k)(M:∀x,∀c∈cells x,Zm c=true){ρ:Ren}(L:SlLaysF0.n6 prog ρ)(J:0<k)(hgo:∀(z:Array Value)(w:World),(callFunc (ρ.f 6) z).run prog w=.ok (.enter (ρ.f 6) z) w)(aE:∀w,(isAgg (ρ.t 24)).run prog w=.ok true w)(zE:∀w,(Go.sizeOf (ρ.t 24)).run prog w=.ok k w)(e:TypeId){g:FuncId}(C:α->α->Int)(B:∀x y,SpecP prog g [.agg (cells x),.agg (cells y)] (fun r=>r=.int .i64 (C x y)))(hO:SWO (ltOf C))(hT:∀x y,(ltOf C) x y=false->(ltOf C) y x=false->x=y)(l:List α)(hlen:l.length<=1000000000):
  SpecH prog (ρ.f 6) [.hd 1000 0 l.length,.p (.fn g [])] [(1000,.own e k (l.map fun s=>.agg (cells s)))]
   (fun r H=>r=.p (.tup [])/\H=[(1000,.own e k ((l.mergeSort fun x y=> !(ltOf C) y x).map fun s=>.agg (cells s)))]):=by
 refine⟨hgo,fun σ β w z hn R hH=>?_⟩;obtain⟨v,u,rfl⟩:=q8g hn;have O:RepL σ β (.hd 1000 0 l.length) v:=by simpa using R 0 _ rfl
 have hv2:RepL σ β (.p (.fn g [])) u:=by simpa using R 1 _ rfl
 obtain rfl:u=.func (.func g) #[] #[]:=by
  cases hv2 with
  | p h=>cases h with
    | fn _ _ vs u hn' Y hr=>
      obtain rfl:vs=#[]:=Array.size_eq_zero_iff.1 hn';rfl
 have Z:=hH.chunks 1000 _ x4z;rcases Z with⟨V,hes⟩|⟨i,vs,Q,hsz,hh,h2,h3,h4,h5⟩
 .have hl0:l=[]:=z0i.1 hes;subst hl0;obtain⟨rfl,_⟩:=RK O V;refine(AnyF.slices_SortFunc_none L none 0 (.func (.func g) #[] #[]) w).mono ?_;rintro e w' ⟨rfl,rfl⟩;exact⟨.p (.tup []),.tuple #[],σ,β,_,rfl,⟨rfl,rfl⟩,.p (.tup [] #[] (fun _=>undef) rfl (by simp) (by simp)),by simpa using hH,by simpa using Later.refl _ _ _ _⟩
 .have hve:=P5 O Q;subst hve;have K:=(hH.apart 1000 (by simp) i Q i.blk i.has_blk).2;have A:l.length<=i.cap:=by simpa using h3
  have hle:l.length*k<=vs.size:=by rw[h2];exact x5l _ A
  have G:=fun m j hm o=>q0j I M (σ:=σ) (l:=l) h5 (m:=m) (j:=j) hm o;have Y:=AnyQ.slices_SortFunc_total L k aE zE (fun x=>(cells x).map vlC) (fun x=>by simp[I]) (fun x v R=>by obtain⟨c,D,rfl⟩:=x4y.1 R;exact AO (M x c D)) C hO g #[] i.blk 0 i.cap l.toArray w
   (B default default).go (fun m os dk _ x y=>by
     refine((B x y).ok (fun _=>none) _ #[.agg ((cells x).map vlC).toArray,.agg ((cells y).map vlC).toArray] rfl (fun j c o=>?_) (fun b c h=>by cases h)).mono ?_
     .match j,o with
      |0,o=>cases o;exact Rv M x
      |1,o=>cases o;exact Rv M y
     .rintro e w' ⟨c,u,σ',rfl,rfl,hr,_,_,hf,_⟩;cases hr;exact⟨rfl,hf.grown⟩) (fun t ht=>by
     have a:t<l.toArray.size*k:=by simpa using ht
     refine⟨?_,YZ hh _⟩;have D:=Bn I a;have E:=G (t/k) (t%k) (z0s (by rw[z1x];simpa using a)) (mod_lt _ J);rw[Nat.div_add_mod']at E;rw[HX hh,x6i,E,z1z _ t (by simpa using a)];rw[x6o (by simpa using a)]at D;simpa using D.symm) K (by simp;omega) hT
  simp only[x8y]at Y;refine Y.mono ?_;rintro e w' ⟨rfl,n,os,rfl⟩;generalize hS:(l.mergeSort fun x y=> !(ltOf C) y x)=S;have F:S.length=l.length:=by rw[<-hS];simp
  obtain⟨hf,hb⟩:=Z7 (enc:=id) (n:=n) (os:=os) (d:=flatK (fun x=>(cells x).map vlC) k S.toArray) hh K;obtain⟨U,hL⟩:=D0 (c':=.own e k (S.map fun s=>.agg (cells s))) hH Q hf (.inr ⟨i,_,Q,hsz,hb,by rw[Q4];exact h2,by simp[F];exact A,h4,q0k I M fun m hm j o=>by
   have q:m*k+j<S.length*k:=x7o (by rw[Nat.succ_mul];exact Nat.add_lt_add_left o _:m*k+j<(m+1)*k) (x5l _ hm);have D:=DM (enc:=id) (d:=flatK (fun x=>(cells x).map vlC) k S.toArray) (vs:=vs) (by simp[F];exact hle) (k:=m*k+j) (by simpa using q);have E:=Bn I (d:=S.toArray) (t:=m*k+j) (by simpa using q);rw[x6o (by simpa using q)]at E;rw[D];simp only[id];rw[E];have e1:(m*k+j)/k=m:=by rw[z1x,Nat.mul_add_div J,Nat.div_eq_of_lt o,x8d]
   have e2:(m*k+j)%k=j:=by rw[z1x,Nat.mul_add_mod,Nat.mod_eq_of_lt o]
   simp[e1,e2]⟩)
  exact⟨.p (.tup []),.tuple #[],σ,β,_,rfl,⟨rfl,rfl⟩,.p (.tup [] #[] (fun _=>undef) rfl (by simp) (by simp)),U,hL⟩
end
def V5{β:Type}{p:β->Prop}[Inhabited {s:β // p s}]{cells:β->List AV}{k:Nat}(B:∀x,(cells x).length=k)(C:∀x,p x->∀c∈cells x,Zm c=true){ρ:Ren}(L:SlLaysF0.n6 prog ρ)(u:0<k)(q:∀(vals:Array Value)(w:World),(callFunc (ρ.f 6) vals).run prog w=.ok (.enter (ρ.f 6) vals) w)(v:∀w,(isAgg (ρ.t 24)).run prog w=.ok true w)(D:∀w,(Go.sizeOf (ρ.t 24)).run prog w=.ok k w)(e:TypeId){g:FuncId}(i:β->β->Int)(m:∀x y,p x->p y->SpecP prog g [.agg (cells x),.agg (cells y)] (fun r=>r=.int .i64 (i x y)))(A:SWO (ltOf fun x y:{s:β // p s}=>i x.1 y.1))(hT:∀x y,p x->p y->¬i x y<0->¬i y x<0->x=y)(l:List β)(j:∀s∈l,p s)(n:l.length<=1000000000):
  SpecH prog (ρ.f 6) [.hd 1000 0 l.length,.p (.fn g [])] [(1000,.own e k (l.map fun s=>.agg (cells s)))]
   (fun r H=>r=.p (.tup [])/\H=[(1000,.own e k ((l.mergeSort fun x y=> !decide (i y x<0)).map fun s=>.agg (cells s)))]):=by
 have h:=q0e (α:={s:β // p s}) (cells:=fun s=>cells s.1) (fun x=>B x.1) (fun x=>C x.1 x.2) L u q v D e (fun x y=>i x.1 y.1) (fun x y=>m x.1 y.1 x.2 y.2) A (fun x y o d=>Subtype.ext (hT x.1 y.1 x.2 y.2 (of_decide_eq_false o) (of_decide_eq_false d))) (l.attachWith p j) (by simpa using n);have z:((l.attachWith p j).map fun s=>AV.agg (cells s.1))=l.map fun s=>AV.agg (cells s):=by simp
 have e2:(((l.attachWith p j).mergeSort fun x y=> !(ltOf fun x y:{s:β // p s}=>i x.1 y.1) y x).map fun s=>AV.agg (cells s.1))=(l.mergeSort fun x y=> !decide (i y x<0)).map fun s=>AV.agg (cells s):=by
  have o:=List.map_mergeSort (l:=l.attachWith p j) (f:=Subtype.val) (r:=fun x y=> !(ltOf fun x y:{s:β // p s}=>i x.1 y.1) y x) (s:=fun x y=> !decide (i y x<0)) (fun a _ b _=>rfl);rw[List.attachWith_map_subtype_val]at o;rw[<-o,x8t];rfl
 rw[z,e2]at h;simpa using h
structure CmpK{κ:Type}(c:κ->κ->Int):Prop where
 zero:∀x y,c x y=0↔x=y
 anti:∀x y,c x y<0↔0<c y x
 tr:∀x y z,c x y<0->c y z<0->c x z<0
theorem CmpK.ge{κ:Type}{c:κ->κ->Int}(h:CmpK c){x y:κ}(j:¬c x y<0):x=y\/c y x<0:=by
 rcases Int.lt_trichotomy (c x y) 0 with i|i|i
 .exact absurd i j
 .exact .inl ((h.zero x y).1 i)
 .exact .inr ((h.anti y x).2 i)
theorem CmpK.ntr{κ:Type}{c:κ->κ->Int}(h:CmpK c){x y z:κ}(l:¬c x y<0)(j:¬c y z<0):¬c x z<0:=fun i=>by
 rcases h.ge l with e|e
 .rw [e]at i;exact j i
 .exact j (h.tr _ _ _ e i)
theorem CmpK.swo{κ α:Type}{c:κ->κ->Int}(h:CmpK c)(f:α->κ):SWO (ltOf fun x y=>c (f x) (f y)):=by
 refine⟨fun x=>?_,fun x y z i j=>?_,fun x y z i j=>?_⟩;all_goals
  unfold ltOf at*
  simp only[x5k,x7j]at*
 .rw [(h.zero _ _).2 rfl];decide
 .exact h.tr _ _ _ i j
 .exact h.ntr i j
theorem CmpK.lex{κ κ':Type}{c:κ->κ->Int}{d:κ'->κ'->Int}(h:CmpK c)(k:CmpK d):CmpK (fun p q:κ×κ'=>if c p.1 q.1=0 then d p.2 q.2 else c p.1 q.1):=by
 refine⟨fun x y=>?_,fun x y=>?_,fun x y z i m=>?_⟩
 .obtain ⟨a,b⟩:=x;obtain⟨u,v⟩:=y;simp only[Prod.mk.injEq,<-h.zero a u,<-k.zero b v];split<;>simp_all
 .have e:c x.1 y.1=0↔c y.1 x.1=0:=by rw[h.zero,h.zero];exact eq_comm
  by_cases l:c x.1 y.1=0
  .simp only[l,e.1 l,if_true];exact k.anti _ _
  .have i:¬c y.1 x.1=0:=fun i=>l (e.2 i);simp only[l,i,x9g];exact h.anti _ _
 .by_cases ha:x.1=y.1
  .have o:=(h.zero x.1 y.1).2 ha;by_cases j:y.1=z.1
   .have r:=(h.zero y.1 z.1).2 j;have t:=(h.zero x.1 z.1).2 (ha.trans j);simp only[o,r,t,if_true]at*
    exact k.tr _ _ _ i m
   .rw [ha];simpa only[mt (h.zero y.1 z.1).1 j,x9g]using m
  .have o:=mt (h.zero x.1 y.1).1 ha;simp only[o,x9g]at i;by_cases j:y.1=z.1
   .rw [<-j];simpa only[o,x9g]using i
   .have r:=mt (h.zero y.1 z.1).1 j;simp only[r,x9g]at m;have t:=h.tr _ _ _ i m;have w:¬c x.1 z.1=0:=by omega
    simpa only[w,x9g]using t
def cmpI_k:CmpK cmpI:=by
 refine⟨fun x y=>?_,fun x y=>?_,fun x y z=>?_⟩<;>unfold cmpI<;>(repeat' split)<;>omega
theorem Rh:∀(x y:List UInt8),Op.bytesLess x y=decide (x<y)
 |[],[]=>by simp[Op.bytesLess]
 |_::_,[]=>by simp[Op.bytesLess]
 |[],_::_=>by simp[Op.bytesLess]
 | a::x,b::y=>by
   rw[Op.bytesLess,Rh x y];simp only[List.cons_lt_cons_iff];by_cases h:a<b<;>by_cases i:a=b<;>by_cases j:x<y<;>simp[h,i,j]
def ltT(a b:Str):Prop:=Op.bytesLess a b=true
def NB{a b:Str}:ltT a b↔a<b:=by
 unfold ltT;rw[Rh,x5k]
theorem ltT.irr(a:Str):¬ltT a a:=fun h=>List.lt_irrefl a (NB.1 h)
theorem ltT.trans(a b c:Str)(i:ltT a b)(j:ltT b c):ltT a c:=NB.2 (List.lt_trans (NB.1 i) (NB.1 j))
theorem ltT.total{a b:Str}(h:a≠b):ltT a b\/ltT b a:=by
 by_cases j:a<b
 .exact .inl (NB.2 j)
 .rcases List.le_iff_lt_or_eq.1 (List.not_lt.1 j)with i|i
  .exact .inr (NB.2 i)
  .exact absurd i.symm h
def cmpT(a b:Str):Int:=if Op.bytesLess a b=true then -1 else if Op.bytesLess b a=true then 1 else 0
def KX(a b:Str):cmpT a b<0↔ltT a b:=by
 unfold cmpT ltT;split
 .rename_i h;exact⟨fun _=>h,fun _=>by decide⟩
 .rename_i h;split
  .exact ⟨fun i=>absurd i (by decide),fun i=>absurd i h⟩
  .exact ⟨fun i=>absurd i (by decide),fun i=>absurd i h⟩
def Hl(a b:Str):0<cmpT a b↔ltT b a:=by
 unfold cmpT;split
 .rename_i h;exact⟨fun i=>absurd i (by decide),fun i=>absurd (ltT.trans _ _ _ h i) (ltT.irr _)⟩
 .split
  .rename_i h;exact⟨fun _=>h,fun _=>by decide⟩
  .rename_i h;exact⟨fun i=>absurd i (by decide),fun i=>absurd i h⟩
def cmpT_k:CmpK cmpT:=by
 refine⟨fun x y=>?_,fun x y=>?_,fun x y z=>?_⟩
 .refine ⟨fun h=>?_,fun h=>?_⟩
  .refine x7p fun j=>?_;rcases ltT.total j with i|i
   .have:=(KX x y).2 i;omega
   .have:=(Hl x y).2 i;omega
  .subst h;have i:=mt (KX x x).1 (ltT.irr x);have l:=mt (Hl x x).1 (ltT.irr x);omega
 .rw [KX,Hl]
 .rw [KX,KX,KX];exact ltT.trans x y z
def HH(a b:Int)(r:List Int):orI (a::b::r)=if a=0 then orI (b::r)else a:=rfl
def Fd(a:Int):orI [a]=a:=by
 show(if a=0 then 0 else a)=a;split<;>omega
def q4c(a b c:Int):orI [a,b,c]<0↔a<0\/a=0/\(b<0\/b=0/\c<0):=by
 by_cases h:a=0<;>by_cases i:b=0<;>by_cases j:c=0<;>simp[orI,h,i,j]
def KQ(x y:Int):cmpI x y<0↔x<y:=by
 unfold cmpI
 (repeat' split)<;>omega
def JD(x y:Int):cmpI x y=0↔x=y:=cmpI_k.zero x y
def YN{x y:Int}(i:x≠9223372036854775807)(j:y≠9223372036854775807)(h:XK x=XK y):x=y:=by
 unfold XK at h;split at h<;>split at h<;>omega
def DO(a b:Step):Bool:=decide (R0 a b<0)
def okSt(s:Step):Prop:=s.src≠9223372036854775807/\s.dst≠9223372036854775807
instance:Inhabited {s:Step // okSt s}:=⟨⟨⟨0,0,0⟩,by constructor<;>decide⟩⟩
def KF(l:List Step):List Step:=l.mergeSort fun x y=> !DO y x
def Xo{l:List Step}:(KF l).length=l.length:=by unfold KF;simp
def Yo(l:List Step):(KF l).Perm l:=x6a _ _
def q0i(s:Step):Int×Int×Int:=(XK s.src,XK s.dst,s.kind)
def EW(a b:Step):R0 a b=(fun p q:Int×Int×Int=>if cmpI p.1 q.1=0 then(fun p q:Int×Int=>if cmpI p.1 q.1=0 then cmpI p.2 q.2 else cmpI p.1 q.1) p.2 q.2 else cmpI p.1 q.1) (q0i a) (q0i b):=by
 unfold R0;rw[HH,HH,Fd];rfl
def Yc(l:List Step)(i:∀s∈l,okSt s)(h:l.length<=1000000000):
  aH 226 [.hd 1000 0 l.length,.p (.fn 227 [])] [(1000,.own 225 3 (l.map fun s=>.agg s.cells))] (.p (.tup [])) [(1000,.own 225 3 ((KF l).map fun s=>.agg s.cells))]:=by
 have o:=cmpI_k.lex (cmpI_k.lex cmpI_k);exact V5 (p:=okSt) (cells:=Step.cells) (k:=3) (fun _=>rfl) (fun x _ c n=>by simp only[Step.cells,x4v,x8m,or_false]at n;rcases n with rfl|rfl|rfl<;>rfl) TC (by decide) call226 Tryz.isAgg225 Tryz.sizeOf225 225 R0 (fun x y _ _=>Mo x y)
  (by simp only[EW];exact o.swo fun s:{s:Step // okSt s}=>q0i s.1) (fun x y q r j m=>by
    rw[EW]at j m;have e:=(o.ge j).resolve_right m;obtain⟨a,b,c⟩:=x;obtain⟨t,u,c'⟩:=y;simp only[q0i,Prod.mk.injEq]at e;obtain rfl:a=t:=YN q.1 r.1 e.1;obtain rfl:b=u:=YN q.2 r.2 e.2.1;rw[e.2.2]) l i h
def Pl(x:X):Bool:=decide (Jo x.op=(x.kids.length:Int))&&(decide (x.op=1)||decide (x.n=0))&&decide (0<=x.n)&&(decide (x.op=2) == !(x.name==[]))&&((x.name==[])||isName x.name)
def O6:Nat->X->Bool
 |0,_=>true
 |k+1,x=>Pl x&&x.kids.all (O6 k)
def q7d:List Nat->Nat
 |[]=>0
 |a::r=>max a (q7d r)
def CK:Nat->X->Nat
 |0,_=>1
 |m+1,x=>1+q7d (x.kids.map (CK m))
def q4p{l:List Nat}{m:Nat}(h:∀a∈l,a<=m):q7d l<=m:=by
 induction l with
 |nil=>exact x4j _
 | cons a r j=>
   have:=j fun b i=>h b (x4x _ i);have:=h a x4z;rw[q7d];omega
def mayXR(x:X):Bool:=decide (CK 20 x<=20)&&O6 (wX x+1) x
theorem Xq:∀(n:Nat)(x:X),YQ n x=true->CK n x<=n/\∀k,O6 k x=true
 |0,x,h=>by rw[YQ]at h;cases h
 | n+1,x,h=>by
   rw [YQ]at h;simp only[x4n,x5k]at h;obtain⟨l,j⟩:=h;have i:(∀y∈x.kids,YQ n y=true)/\Pl x=true:=by
    split at j
    .rename_i o;simp only[x4n,x5k]at j;have m:x.kids=[]:=by
      rw[o]at l;have:Jo 1=0:=by decide
      rw[this]at l;exact List.length_eq_zero_iff.1 (by omega)
     refine⟨by rw[m];simp,?_⟩;unfold Pl;rw[l,o,j.2];simp[j.1]
    split at j
    .rename_i o;simp only[x4n,x5k]at j;have m:x.kids=[]:=by
      rw[o]at l;have:Jo 2=0:=by decide
      rw[this]at l;exact List.length_eq_zero_iff.1 (by omega)
     have p:(x.name==[])=false:=by
      cases u:x.name with
      | nil=>
        have:=j.2;rw[u]at this;unfold isName at this;rw[dif_neg (by simp)]at this;cases this
      |cons a r=>rfl
     refine⟨by rw[m];simp,?_⟩;unfold Pl;rw[l,o,j.2,p,j.1];simp
    .rename_i q s;simp only[x4n,x5k,x6w]at j;refine⟨j.2,?_⟩;unfold Pl;rw[l,j.1.1,j.1.2];simp[q,s]
   refine⟨?_,fun k=>?_⟩
   .rw [CK];have:q7d (x.kids.map (CK n))<=n:=q4p fun a ha=>by
     obtain⟨y,t,rfl⟩:=x4y.1 ha;exact(Xq n y (i.1 y t)).1
    omega
   .cases k with
    |zero=>rfl
    | succ k=>
      rw[O6,i.2,Bool.true_and,x6w];exact fun y t=>(Xq n y (i.1 y t)).2 k
def q2y{x:X}(h:Ij x=true):mayXR x=true:=by
 obtain⟨i,j⟩:=Xq 20 x h;unfold mayXR;rw[x5n i,j];rfl
def argR(a:Arg):Bool:=bif a.ref then isName a.name&&noneB a.x else(a.name==[])&&mayXR a.x
def q3o{a:Arg}(h:Us a=true):argR a=true:=by
 unfold Us HC PM at h;unfold argR;cases i:a.ref with
 | true=>
   rw[i]at h;simpa using h
 | false=>
   rw[i]at h;simp only[x5q,Bool.not_false,x4s,x4n]at h;rw[h.1,q2y h.2];rfl
def oneOk(s:S):Bool:=UH s&&namesB s.Y
def hasXB(s:S):Bool:=decide (s.kind=1)||decide (s.kind=3)||decide (s.kind=5)||decide (s.kind=6)||(decide (s.kind=9)&&s.has)
structure OneF(s:S):Prop where
 Y:namesB s.Y=true
 lo:1<=s.kind
 hi:s.kind<=10
 x:hasXB s=true->mayXR s.x=true
 nox:hasXB s=false->noneB s.x=true
 has:s.has=true->s.kind=9
 name:s.kind=1\/s.kind=2\/s.kind=10->isName s.name=true
 noname:¬(s.kind=1\/s.kind=2\/s.kind=10)->(s.name==[])=true\/(s.kind=4/\isName s.name=true)
 C:s.kind=4->isName s.C=true
 noproc:s.kind≠4->(s.C==[])=true
 args:s.args.all argR=true
 noargs:s.kind≠4->s.args.length=0
 V:s.V.length=0\/s.kind=5\/s.kind=6
 Z:s.Z.length=0\/s.kind=5
def AM{s:S}(h:oneOk s=true):OneF s:=by
 unfold oneOk at h;rw[x4n]at h;obtain⟨h,b⟩:=h;have p:s.args.all Us=true->s.args.all argR=true:=fun h=>by
  rw[x6w]at h⊢;exact fun a ha=>q3o (h a ha)
 have key:∀(k:Int)(f:Flds),s.kind=k->Zd s.kind s.has (s.name==[])=some f->f.has=false/\(f.V=false->s.V.length=0)/\(f.Z=false->s.Z.length=0)/\(s.kind≠4->s.args.length=0)/\HC s.name f.name=true/\HC s.C f.C=true/\PM s.x f.x=true/\s.args.all argR=true:=fun k f i q=>by
  rw[Sx q]at h;simp only[x4n,x7w,x8p,Bool.and_eq_false_iff,Bool.not_eq_false',x7j,x5k]at h;obtain⟨⟨⟨⟨⟨⟨⟨c,m⟩,n⟩,t⟩,l⟩,u⟩,o⟩,e⟩:=h;refine⟨c,fun j=>?_,fun j=>?_,fun j=>?_,l,u,o,p e⟩
  .rcases m with m|m
   .rw [j]at m;cases m
   .omega
  .rcases n with n|n
   .rw [j]at n;cases n
   .omega
  .rcases t with t|t
   .exact absurd t j
   .omega
 have r:s.kind=1\/s.kind=2\/s.kind=3\/s.kind=4\/s.kind=5\/s.kind=6\/s.kind=7\/s.kind=8\/s.kind=9\/s.kind=10:=by
  unfold UH at h;split at h
  .cases h
  .rename_i f q;unfold Zd at q
   (repeat' split at q)<;>first|(cases q;done)|omega
 have fin:∀(k:Int)(f:Flds),s.kind=k->Zd s.kind s.has (s.name==[])=some f->(1<=k/\k<=10)->f.x=hasXB s->(s.has=true->f.has=true\/k=9)->((k=1\/k=2\/k=10)->f.name=true)->(¬(k=1\/k=2\/k=10)->f.name=false\/(k=4/\f.name = !(s.name==[])))->f.C=decide (k=4)->(f.V=true->k=5\/k=6)->(f.Z=true->k=5)->OneF s:=fun k f i q H z A B w y D g=>by
  obtain⟨c,m,n,t,l,u,o,e⟩:=key k f i q;unfold PM at o;refine⟨b,by omega,by omega,fun j=>?_,fun j=>?_,fun j=>?_,fun j=>?_,fun j=>?_,fun j=>?_,fun j=>?_,e,t,?_,?_⟩
  .rw [z,j]at o;exact q2y o
  .rw [z,j]at o;exact o
  .rcases A j with v|v
   .rw [c]at v;cases v
   .omega
  .rw [B (by omega)]at l;exact l
  .rcases w (by omega)with v|⟨v,d⟩
   .rw [v]at l;exact .inl l
   .cases E:s.name==[]with
    |true=>exact .inl rfl
    | false=>
      rw[d,E]at l;exact .inr ⟨by omega,l⟩
  .rw [y,x5n (by omega)]at u;exact u
  .rw [y,x5r (by omega)]at u;exact u
  .cases G:f.V with
   |true=>exact .inr (by have:=D G;omega)
   |false=>exact .inl (m G)
  .cases F:f.Z with
   |true=>exact .inr (by have:=g F;omega)
   |false=>exact .inl (n F)
 rcases r with i|i|i|i|i|i|i|i|i|i
 .exact fin 1 ⟨true,false,true,s.has,false,false⟩ i (by rw[i];rfl) (by omega) (by unfold hasXB;rw[i];rfl) (fun h=>.inl h) (fun _=>rfl) (fun h=>absurd (by omega) h) rfl (fun h=>by cases h) (fun h=>by cases h)
 .exact fin 2 ⟨true,false,false,s.has,false,false⟩ i (by rw[i];rfl) (by omega) (by unfold hasXB;rw[i];rfl) (fun h=>.inl h) (fun _=>rfl) (fun h=>absurd (by omega) h) rfl (fun h=>by cases h) (fun h=>by cases h)
 .exact fin 3 ⟨false,false,true,s.has,false,false⟩ i (by rw[i];rfl) (by omega) (by unfold hasXB;rw[i];rfl) (fun h=>.inl h) (fun h=>by omega) (fun _=>.inl rfl) rfl (fun h=>by cases h) (fun h=>by cases h)
 .exact fin 4 ⟨!(s.name==[]),true,false,s.has,false,false⟩ i (by rw[i];rfl) (by omega) (by unfold hasXB;rw[i];rfl) (fun h=>.inl h) (fun h=>by omega) (fun _=>.inr ⟨rfl,rfl⟩) rfl (fun h=>by cases h) (fun h=>by cases h)
 .exact fin 5 ⟨false,false,true,s.has,true,true⟩ i (by rw[i];rfl) (by omega) (by unfold hasXB;rw[i];rfl) (fun h=>.inl h) (fun h=>by omega) (fun _=>.inl rfl) rfl (fun _=>.inl rfl) (fun _=>rfl)
 .exact fin 6 ⟨false,false,true,s.has,true,false⟩ i (by rw[i];rfl) (by omega) (by unfold hasXB;rw[i];rfl) (fun h=>.inl h) (fun h=>by omega) (fun _=>.inl rfl) rfl (fun _=>.inr rfl) (fun h=>by cases h)
 .exact fin 7 ⟨false,false,false,s.has,false,false⟩ i (by rw[i];rfl) (by omega) (by unfold hasXB;rw[i];rfl) (fun h=>.inl h) (fun h=>by omega) (fun _=>.inl rfl) rfl (fun h=>by cases h) (fun h=>by cases h)
 .exact fin 8 ⟨false,false,false,s.has,false,false⟩ i (by rw[i];rfl) (by omega) (by unfold hasXB;rw[i];rfl) (fun h=>.inl h) (fun h=>by omega) (fun _=>.inl rfl) rfl (fun h=>by cases h) (fun h=>by cases h)
 .exact fin 9 ⟨false,false,s.has,false,false,false⟩ i (by rw[i];rfl) (by omega) (by unfold hasXB;rw[i];cases s.has<;>rfl) (fun _=>.inr rfl) (fun h=>by omega) (fun _=>.inl rfl) rfl (fun h=>by cases h) (fun h=>by cases h)
 .exact fin 10 ⟨true,false,false,s.has,false,false⟩ i (by rw[i];rfl) (by omega) (by unfold hasXB;rw[i];rfl) (fun h=>.inl h) (fun _=>rfl) (fun h=>absurd (by omega) h) rfl (fun h=>by cases h) (fun h=>by cases h)
def Qn(n c:Nat):List Int:=(List.range' (n+1) c).map fun(k:Nat)=>(k:Int)
def Wm(n a b:Nat):Qn n (a+b)=Qn n a++Qn (n+a) b:=by
 unfold Qn;rw[<-x4d,show n+a+1=n+1+1*a by omega,List.range'_append]
def Ov(n:Nat):Qn n 1=[((n+1:Nat):Int)]:=by simp[Qn]
mutual
theorem q0v(nest:Int):∀(t:S){n:Nat}{m:Int},N9 nest n t=some m->(flS t).map S.id=Qn n (UZ t)
 | .mk id kind Y name C x has args V Z,n,m,h=>by
   simp only[N9]at h;split at h
   ·cases h
   split at h
   ·cases h
   rename_i hid;cases hn:namesB Y<;>rw[hn]at h
   ·cases h
   cases hf:UH (.mk id kind Y name C x has args V Z)<;>rw[hf]at h
   ·cases h
   simp only[x4s]at h;split at h
   ·rename_i m1 h1;have h1':JA (nest+1) ((n+1:Nat):Int) V=some m1:=by rw[<-h1];rfl
    have h2:=KK _ _ V h1';have h3:=Q9 (nest+1) V h1';have h':JA (nest+1) ((n+1+QJ V:Nat):Int) Z=some m:=by rw[<-h,h2];rfl
    have h4:=Q9 (nest+1) Z h';rw[flS,UZ,x4o,x4d,h3,h4,show 1+QJ V+QJ Z=1+(QJ V+QJ Z) by omega,Wm,Ov,Wm];have:id=((n+1:Nat):Int):=by omega
    rw[show(S.mk id kind Y name C x has args V Z).id=id from rfl,this];rfl
   ·cases h
theorem Q9(nest:Int):∀(l:List S){n:Nat}{m:Int},JA nest n l=some m->(flL l).map S.id=Qn n (QJ l)
 |[],n,m,h=>by rw[flL,QJ];rfl
 | t::r,n,m,h=>by
   simp only[JA]at h;split at h
   ·cases h
   split at h
   ·rename_i m1 h1;have h2:=Tb _ _ t h1;have h3:=q0v nest t h1;have h':JA nest ((n+UZ t:Nat):Int) r=some m:=by rw[<-h,h2];rfl
    have h4:=Q9 nest r h';rw[flL,QJ,x4d,h3,h4,Wm]
   ·cases h
end
theorem G8:∀(l:List Pr){n:Nat}{m:Int},ZW n l=some m->∀(j:Nat)(f:Pr),l[j]?=some f->(flL f.body).map S.id=Qn (n+QS l j) (QJ f.body)
 |[],_,_,_,j,f,hj=>by simp at hj
 | g::r,n,m,h,j,f,hj=>by
   rw[ZW]at h;cases q:PK g<;>rw[q]at h
   .cases h
   simp only[x4s]at h;split at h
   .rename_i s i;cases j with
    | zero=>
      simp at hj;subst hj;exact Q9 1 g.body i
    | succ j=>
      have p:=KK _ _ g.body i;have o:ZW ((n+QJ g.body:Nat):Int) r=some m:=by rw[<-h,p];rfl
      have:=G8 r o j f (by simpa using hj);rw[QS,this,x8j]
   .cases h
def AY{p:Pg}(h:BC p=true){j:Nat}{f:Pr}(l:p.A[j]?=some f):(flL f.body).map S.id=Qn (QS p.A j) (QJ f.body):=by
 unfold BC at h;simp only[x4n]at h;cases i:ZW 0 p.A with
 |none=>rw[i]at h;cases h.2
 | some m=>
   have:=G8 p.A (n:=0) i j f l;simpa using this
def Ow{n c:Nat}{a:Int}(h:a∈Qn n c):(n:Int)+1<=a/\a<=n+c:=by
 unfold Qn at h;obtain⟨k,j,rfl⟩:=x4y.1 h;rw[List.mem_range']at j;obtain⟨i,l,rfl⟩:=j;omega
def okI(i h:Nat)(x:Int):Prop:=x = -1\/((i:Int)+1<=x/\x<=h)
mutual
theorem q4k(C:Int)(lo hi:Nat):∀(t:S)(up nx loop:Int)(n:Nat)(it:Item),it∈itS C up nx loop n t->okI lo hi nx->(loop=0\/((lo:Int)+1<=loop/\loop<=hi))->lo<=n->n+UZ t<=hi->
  okI lo hi it.next/\(it.loop=0\/((lo:Int)+1<=it.loop/\it.loop<=hi))
 | .mk id kind Y name pr x has args V Z,up,nx,loop,n,it,h,h1,h2,h3,h4=>by
   rw[itS]at h;rw[UZ]at h4;rcases x4v.1 h with rfl|h
   ·exact⟨h1,h2⟩
   ·have h5:okI lo hi (if kind=6 then((n:Int)+1)else nx):=by
     split
     ·exact .inr ⟨by omega,by omega⟩
     ·exact h1
    have h6:(if kind=6 then((n:Int)+1)else loop)=0\/((lo:Int)+1<=(if kind=6 then((n:Int)+1)else loop)/\(if kind=6 then((n:Int)+1)else loop)<=hi):=by
     split
     ·exact .inr ⟨by omega,by omega⟩
     ·exact h2
    rcases x4g.1 h with h|h
    ·exact Fv C lo hi V _ _ _ _ it h h5 h6 (by omega) (by omega)
    ·exact Fv C lo hi Z _ _ _ _ it h h5 h6 (by omega) (by omega)
theorem Fv(C:Int)(lo hi:Nat):∀(l:List S)(up nx loop:Int)(n:Nat)(it:Item),it∈itL C up nx loop n l->okI lo hi nx->(loop=0\/((lo:Int)+1<=loop/\loop<=hi))->lo<=n->n+QJ l<=hi->
  okI lo hi it.next/\(it.loop=0\/((lo:Int)+1<=it.loop/\it.loop<=hi))
 |[],up,nx,loop,n,it,h,h1,h2,h3,h4=>by rw[itL]at h;cases h
 | t::r,up,nx,loop,n,it,h,h1,h2,h3,h4=>by
   rw[itL]at h;rw[QJ]at h4;rcases x4g.1 h with h|h
   ·refine q4k C lo hi t _ _ _ _ it h ?_ h2 h3 (by omega);cases r with
    |nil=>exact h1
    | cons u r=>
      have:1<=QJ (u::r):=by rw[QJ,UK];omega
      exact .inr ⟨by simp;omega,by simp;omega⟩
   ·exact Fv C lo hi r _ _ _ _ it h h1 h2 (by omega) (by omega)
end
theorem Ho:∀(l:List S)(v:S),v∈l->v∈flL l
 |[],v,h=>by cases h
 | t::r,v,h=>by
   rw[flL];rcases x4v.1 h with rfl|h
   .refine x4g.2 (.inl ?_);rw[q7x];exact x4z
   .exact x4g.2 (.inr (Ho r v h))
structure RI where
 s:S
 deep:Int
 zc:Int
 Z:Bool
def flF:Nat->Int->Bool->List S->List RI->List RI
 |0,i,e,l,out=>l.foldl (fun o s=>if o.length<=200 then o++[⟨s,13,i,e⟩]else o) out
 |m+1,i,e,l,out=>l.foldl (fun o s=>if o.length<=200 then flF m s.id true s.Z (flF m s.id false s.V (o++[⟨s,13-((m+1:Nat):Int),i,e⟩]))else o) out
mutual
def fuS(d i:Int)(e:Bool):S->List RI
 |.mk id kind Y name C x has args V Z=>⟨.mk id kind Y name C x has args V Z,d,i,e⟩::(fuL (d+1) id false V++fuL (d+1) id true Z)
def fuL(d i:Int)(e:Bool):List S->List RI
 |[]=>[]
 |t::r=>fuS d i e t++fuL d i e r
end
def q7v(d i:Int)(e:Bool)(t:S):fuS d i e t=⟨t,d,i,e⟩::(fuL (d+1) t.id false t.V++fuL (d+1) t.id true t.Z):=by
 cases t;rw[fuS];rfl
mutual
theorem q9d(d i:Int)(e:Bool):∀t:S,(fuS d i e t).map RI.s=flS t
 | .mk id kind Y name C x has args V Z=>by
   rw[fuS,flS,x4o,x4d,A7 _ _ _ V,A7 _ _ _ Z]
theorem A7(d i:Int)(e:Bool):∀l:List S,(fuL d i e l).map RI.s=flL l
 |[]=>by rw[fuL,flL];rfl
 |t::r=>by rw[fuL,flL,x4d,q9d _ _ _ t,A7 _ _ _ r]
end
def F4(d i:Int)(e:Bool)(l:List S):(fuL d i e l).length=QJ l:=by
 rw[<-U8,<-A7 d i e l,x3a]
def Xr{nest seen m:Int}{s:S}(h:N9 nest seen s=some m):oneOk s=true/\s.id=seen+1/\∃i,JA (nest+1) (seen+1) s.V=some i/\JA (nest+1) i s.Z=some m:=by
 rw[E9]at h;split at h
 .cases h
 split at h
 .cases h
 rename_i o;cases l:namesB s.Y<;>rw[l]at h
 .cases h
 cases j:UH s<;>rw[j]at h
 .cases h
 simp only[x4s]at h;split at h
 .rename_i i n;exact⟨by unfold oneOk;rw[l,j];rfl,by omega,i,n,h⟩
 .cases h
def BI{nest seen m:Int}{s:S}{r:List S}(h:JA nest seen (s::r)=some m):nest<=12/\∃i,N9 nest seen s=some i/\JA nest i r=some m:=by
 rw[JA]at h;split at h
 .cases h
 rename_i l;split at h
 .rename_i i j;exact⟨by omega,i,j,h⟩
 .cases h
mutual
theorem q7u(d i:Int)(e:Bool):∀(t:S){n m:Int},d<=12->N9 d n t=some m->∀x∈fuS d i e t,x.deep<=12/\oneOk x.s=true
 | .mk id kind Y name C x has args V Z,n,m,hd,h,y,hy=>by
   obtain⟨h1,_,m1,h2,h3⟩:=Xr h;rw[fuS]at hy;rcases x4v.1 hy with rfl|hy
   ·exact⟨hd,h1⟩
   ·rcases x4g.1 hy with hy|hy
    ·exact RW _ _ _ V h2 y hy
    ·exact RW _ _ _ Z h3 y hy
theorem RW(d i:Int)(e:Bool):∀(l:List S){n m:Int},JA d n l=some m->∀x∈fuL d i e l,x.deep<=12/\oneOk x.s=true
 |[],n,m,h,y,hy=>by rw[fuL]at hy;cases hy
 | t::r,n,m,h,y,hy=>by
   obtain⟨h1,m1,h2,h3⟩:=BI h;rw[fuL]at hy;rcases x4g.1 hy with hy|hy
   ·exact q7u _ _ _ t h1 h2 y hy
   ·exact RW _ _ _ r h3 y hy
end
def q7q:∀(k:Nat)(l:List S)(i:Int)(e:Bool)(out:List RI)(seen m:Int),JA (13-(k:Int)) seen l=some m->out.length+QJ l<=200->flF k i e l out=out++fuL (13-(k:Int)) i e l:=by
 intro k;induction k with
 | zero=>
   intro l i e out seen m h j;cases l with
   |nil=>rw[fuL,x5m];rfl
   | cons s r=>
     have:=(BI h).1;simp at this
 | succ k t=>
   intro l;induction l with
   |nil=>intro i e out seen m h j;rw[fuL,x5m];rfl
   | cons s r n=>
     intro i e out seen m h j;obtain⟨w,x,u,v⟩:=BI h;obtain⟨_,_,y,p,q⟩:=Xr u;have o:(13:Int)-((k+1:Nat):Int)+1=13-(k:Int):=by omega
     rw[o]at p q;rw[QJ,UK]at j;show flF (k+1) i e r (if out.length<=200 then flF k s.id true s.Z (flF k s.id false s.V (out++[⟨s,13-((k+1:Nat):Int),i,e⟩]))else out)=_;rw[if_pos (by omega),t s.V s.id false _ _ _ p (by simp;omega),t s.Z s.id true _ _ _ q (by simp[F4];omega),n i e _ _ _ v (by simp[F4];omega),fuL,q7v,o];simp
def CI(f:Pr):List RI:=flF 12 0 false f.body []
def q3y(l:List Pr)(out:List RI):List RI:=l.foldl (fun o f=>if o.length<=200 then o++CI f else o) out
def allR(p:Pg):List RI:=q3y p.A []
def flatU(f:Pr):List RI:=fuL 1 0 false f.body
theorem Yq:∀(l:List Pr){n m:Int},ZW n l=some m->∀f∈l,PK f=true/\∃a b,JA 1 a f.body=some b
 |[],_,_,_,f,i=>by cases i
 | g::r,n,m,h,f,i=>by
   rw[ZW]at h;cases j:PK g<;>rw[j]at h
   .cases h
   simp only[x4s]at h;split at h
   .rename_i p o;rcases x4v.1 i with rfl|i
    .exact ⟨j,_,_,o⟩
    .exact Yq r h f i
   .cases h
def Xf{p:Pg}(h:BC p=true):p.F.length<=16/\p.A.length<=16/\namesB p.F=true/\∀f∈p.A,PK f=true/\∃a b,JA 1 a f.body=some b:=by
 unfold BC at h;simp only[x4n,x5k]at h;obtain⟨⟨⟨l,n⟩,o⟩,i⟩:=h;refine⟨l,n,o,?_⟩;cases j:ZW 0 p.A with
 |none=>rw[j]at i;cases i
 |some m=>exact Yq p.A j
theorem Wg:∀(l:List Pr)(f:Pr),f∈l->QJ f.body<=cntP l
 |[],f,h=>by cases h
 | g::r,f,h=>by
   rw[cntP];rcases x4v.1 h with rfl|h
   .omega
   .have:=Wg r f h;omega
def O4{p:Pg}(h:BC p=true){f:Pr}(i:f∈p.A):CI f=flatU f:=by
 obtain⟨_,_,_,j⟩:=Xf h;obtain⟨_,a,b,l⟩:=j f i;have m:=(VD h).2.2;have n:=Wg _ f i;have:=q7q 12 f.body 0 false [] a b l (by simp;omega);simpa[CI,flatU]using this
theorem Ry:∀(l:List Pr)(out:List RI),(∀f∈l,CI f=flatU f)->out.length+cntP l<=200->q3y l out=out++l.flatMap flatU
 |[],out,_,_=>by show out=_;simp
 | f::r,out,h,hl=>by
   rw[cntP]at hl;show q3y r (if out.length<=200 then out++CI f else out)=_;have e:=F4 1 0 false f.body;rw[if_pos (by omega),h f x4z,Ry r _ (fun g i=>h g (x4x _ i)) (by simp only[flatU,x3o,e];omega)];simp
def Cc{p:Pg}(h:BC p=true):allR p=p.A.flatMap flatU:=by
 have:=Ry p.A [] (fun f i=>O4 h i) (by have:=(VD h).2.2;simpa using this);simpa[allR]using this
def q3j{p:Pg}(h:BC p=true):∀x∈p.A.flatMap flatU,x.deep<=12/\oneOk x.s=true:=by
 intro x i;obtain⟨f,m,i⟩:=x4a.1 i;obtain⟨_,_,_,j⟩:=Xf h;obtain⟨_,a,b,l⟩:=j f m;exact RW 1 0 false f.body l x i
theorem LR:∀(l:List Pr){n:Nat}{m:Int},ZW n l=some m->(l.flatMap fun f=>flL f.body).map S.id=Qn n (cntP l)
 |[],n,m,_=>by rw[cntP];rfl
 | g::r,n,m,h=>by
   rw[ZW]at h;cases q:PK g<;>rw[q]at h
   .cases h
   simp only[x4s]at h;split at h
   .rename_i s i;have o:=KK _ _ g.body i;have j:ZW ((n+QJ g.body:Nat):Int) r=some m:=by rw[<-h,o];rfl
    have p:=LR r j;rw[x6d,x4d,Q9 1 g.body i,p,cntP,Wm]
   .cases h
def q6n(l:List Pr):(l.flatMap flatU).map RI.s=l.flatMap fun f=>flL f.body:=by
 induction l with
 |nil=>rfl
 | cons f r h=>
   rw[x6d,x6d,x4d,h];congr 1;exact A7 _ _ _ _
def Rj(l:List Pr):(l.flatMap flatU).length=cntP l:=by
 induction l with
 |nil=>rfl
 |cons f r h=>rw[x6d,x3o,h,cntP];congr 1;exact F4 _ _ _ _
def IQ{p:Pg}(h:BC p=true){k:Nat}{x:RI}(o:(p.A.flatMap flatU)[k]?=some x):x.s.id=(k:Int)+1:=by
 unfold BC at h;simp only[x4n,x5k]at h;cases q:ZW 0 p.A with
 |none=>rw[q]at h;cases h.2
 | some m=>
   have l:=LR p.A (n:=0) q;rw[<-q6n]at l;have i:(((p.A.flatMap flatU).map RI.s).map S.id)[k]?=some x.s.id:=by simp[o]
   rw[l]at i;unfold Qn at i;have j:k<cntP p.A:=by rw[<-Rj];exact(x4u.1 o).1
   rw[x4q,List.getElem?_range' j]at i;simp at i;omega
structure MayF(p:Pg):Prop where
 gl:p.F.length<=16
 pl:p.A.length<=16
 gn:namesB p.F=true
 pr:∀f∈p.A,f.B.length<=8/\f.zd.length<=16/\isName f.name=true/\namesB f.zd=true/\namesB f.fin=true/\(f.B.all fun a=>isName a.name)=true
 len:(allR p).length<=200
 its:∀(k:Nat)(x:RI),(allR p)[k]?=some x->x.s.id=(k:Int)+1/\x.deep<=12/\oneOk x.s=true
def GF{p:Pg}(h:BC p=true):MayF p:=by
 obtain⟨j,l,m,n⟩:=Xf h;refine⟨j,l,m,fun f o=>GH.1 (n f o).1,?_,fun k x i=>?_⟩
 .rw [Cc h,Rj];exact(VD h).2.2
 .rw [Cc h]at i;exact⟨IQ h i,q3j h x (x4p i)⟩
def Pr0:Pr:=⟨[],[],[],[],[]⟩
def PF:List Str->Nat
 |[]=>0
 |s::r=>1+s.length+PF r
mutual
def gXx:X->Nat
 |.mk _ _ name kids=>1+name.length+gXs kids
def gXs:List X->Nat
 |[]=>0
 |x::r=>gXx x+gXs r
end
def Jt:List Arg->Nat
 |[]=>0
 |a::r=>gXx a.x+(1+a.name.length)+Jt r
mutual
def gS:S->Nat
 |.mk _ _ Y name C x _ args V Z=>gXx x+PF Y+(1+name.length)+(1+C.length)+Jt args+gL V+gL Z
def gL:List S->Nat
 |[]=>0
 |s::r=>gS s+gL r
end
def Iv:List Param->Nat
 |[]=>0
 |a::r=>1+a.name.length+Iv r
def gPr(f:Pr):Nat:=1+f.name.length+PF f.zd+PF f.fin+Iv f.B+gL f.body
def L0:List Pr->Nat
 |[]=>0
 |f::r=>gPr f+L0 r
def gPg(p:Pg):Nat:=PF p.F+L0 p.A
def q9b(s:S):gS s=gXx s.x+PF s.Y+(1+s.name.length)+(1+s.C.length)+Jt s.args+gL s.V+gL s.Z:=by
 cases s;rw[gS];rfl
theorem M1:∀l:List Str,Ih l<=PF l
 |[]=>x4m _
 |s::r=>by have:=M1 r;simp only[Ih,PF];omega
mutual
theorem x2v:∀x:X,wX x<=gXx x
 |.mk _ _ name kids=>by have:=q8f kids;rw[wX,gXx];omega
theorem q8f:∀l:List X,wXs l<=gXs l
 |[]=>by rw[wXs];omega
 |x::r=>by have:=x2v x;have:=q8f r;rw[wXs,gXs];omega
end
theorem I9:∀l:List Arg,Z4 l<=Jt l
 |[]=>x4m _
 |a::r=>by have:=I9 r;have:=x2v a.x;simp only[Z4,Jt];omega
mutual
theorem x3c:∀s:S,wS s<=gS s
 | .mk _ _ Y name C x _ args V Z=>by
   have:=x2v x;have:=M1 Y;have:=I9 args;have:=q9x V;have:=q9x Z;rw[wS,gS];omega
theorem q9x:∀l:List S,wL l<=gL l
 |[]=>by rw[wL];omega
 |s::r=>by have:=x3c s;have:=q9x r;rw[wL,gL];omega
end
theorem q2i:∀l:List Param,q9q l<=Iv l
 |[]=>x4m _
 |a::r=>by have:=q2i r;simp only[q9q,Iv];omega
theorem q2o:∀l:List Pr,q6j l<=L0 l
 |[]=>x4m _
 | f::r=>by
   have:=q2o r;have:=M1 f.zd;have:=M1 f.fin;have:=q2i f.B;have:=q9x f.body;simp only[q6j,L0,wPr,gPr];omega
def x2w(p:Pg):wPg p<=gPg p:=by
 have:=M1 p.F;have:=q2o p.A;unfold wPg gPg;omega
def XY(x:Int):Int:=if x>20000 then 20001 else x
def ZU{a b:Int}(h:0<=b):XY (XY a+b)=XY (a+b):=by
 unfold XY;split<;>split<;>(try split)<;>omega
def XO{a:Int}(h:0<=a):0<=XY a/\XY a<=20001:=by
 unfold XY;split<;>omega
def D1{a:Int}(h:a<=20001):XY a=a:=by
 unfold XY;split<;>omega
def YL{a b:Int}(h:a>20000)(i:a<=20001)(j:0<=b):a=XY (a+b):=by
 unfold XY;split<;>omega
def QT(s:Str)(n:Int)(h:0<=n/\n<=20001):aP 35 [.str s,.int .i64 n] (.int .i64 (XY (n+(1+s.length:Nat)))):=by
 refine sC GW func35 ?_;conv=>whnf
 repeat' ((first|(refine gX ?_;intros)|(apply bD<;>intro _<;>try omega))<;>conv=>whnf)
 all_goals exact RetK.int (by unfold XY;(repeat' split)<;>omega)
def XR(l:List Str)(n:Int)(s:0<=n/\n<=20001):aP 34 [eStrs l,.int .i64 n] (.int .i64 (XY (n+PF l))):=by
 refine sC KM func34 ?_;conv=>whnf
 skip
 have t:(l.map AV.str).length=l.length:=x3a _;refine lI (fun x:Nat×Int=>⟨[(0,.p (eStrs l)),(1,.j x.2),(5,.j x.1)],[]⟩) (fun x=>x.1<=l.length/\(0<=x.2/\x.2<=20001)/\XY (x.2+PF (l.drop x.1))=XY (n+PF l)) (fun x=>l.length-x.1) (0,n) ⟨x4j _,s,rfl⟩ ?_;rintro⟨j,m⟩ ⟨q,i,h⟩;simp only at q i h⊢;rcases x4f j l.length with o|o
 .rw [x5j o,PF]at h;conv=>whnf
  repeat' ((first|(refine gX ?_;intros)|refine cP (QT _ _ i) ?_|(apply bD<;>intro _<;>try omega))<;>conv=>whnf)
  .have r:XY (XY (m+(1+l[j].length:Nat))+PF (l.drop (j+1)))=XY (n+PF l):=by
    rw[ZU (by omega),<-h];congr 1;omega
   exact nX (j+1,XY (m+(1+l[j].length:Nat))) ⟨by simp only;omega,XO (by omega),r⟩
  .exact RetK.int (by rw[<-h];exact YL (by omega) i.2 (by omega))
 .rw [x4l o,PF]at h;conv=>whnf
  repeat' ((first|(refine iM fun _=>?_)|(apply bD<;>intro _<;>try omega))<;>conv=>whnf)
  exact RetK.int (by rw[<-h,D1 (by omega)];simp)
def UA:∀(k:Nat)(x:X)(_:gXx x<k)(n:Int)(_:0<=n/\n<=20001),aP 57 [.agg x.cells,.int .i64 n] (.int .i64 (XY (n+gXx x))):=by
 intro k;induction k with
 |zero=>intro x h;omega
 | succ k u=>
   intro x c n b;have t:gXx x=1+x.name.length+gXs x.kids:=by cases x;rw[gXx];rfl
   have z:=X.avs_len x.kids;refine sC GZ func57 ?_;conv=>whnf
   repeat' (refine cP (QT _ _ b) ?_;conv=>whnf)
   refine lI (fun y:Nat×Int=>⟨[(1,.j y.2),(2,.p (.ip x.cells)),(5,.j y.1)],[]⟩) (fun y=>y.1<=x.kids.length/\(0<=y.2/\y.2<=20001)/\XY (y.2+gXs (x.kids.drop y.1))=XY (n+gXx x)) (fun y=>x.kids.length-y.1) (0,XY (n+(1+x.name.length:Nat))) ⟨x4j _,XO (by omega),by
    show XY (XY (n+(1+x.name.length:Nat))+gXs x.kids)=_;rw[ZU (by omega),t];congr 1;omega⟩ ?_
   rintro⟨j,m⟩ ⟨v,q,i⟩;simp only at v q i⊢;rcases x4f j x.kids.length with o|o
   .rw [x5j o,gXs]at i;have s:gXx x.kids[j]<k:=by
     have:∀(l:List X)(y:X),y∈l->gXx y<=gXs l:=fun l=>by
      induction l with
      |nil=>intro y h;cases h
      | cons a r u=>
        intro y h;rw[gXs];rcases x4v.1 h with rfl|h
        .omega
        .have:=u y h;omega
     have:=this x.kids _ (x4h o);omega
    conv=>whnf
    repeat' ((first|(refine gX ?_;intros)|refine cP (u (x.kids[j]'o) s m q) ?_|(apply bD<;>intro _<;>try omega))<;>conv=>whnf)
    .have w:XY (XY (m+gXx x.kids[j])+gXs (x.kids.drop (j+1)))=XY (n+gXx x):=by
      rw[ZU (by omega),<-i];congr 1;omega
     exact nX (j+1,XY (m+gXx x.kids[j])) ⟨by simp only;omega,XO (by omega),w⟩
    .exact RetK.int (by rw[<-i];exact YL (by omega) q.2 (by omega))
   .rw [x4l o,gXs]at i;conv=>whnf
    repeat' ((first|(refine iM fun _=>?_)|(apply bD<;>intro _<;>try omega))<;>conv=>whnf)
    exact RetK.int (by rw[<-i,D1 (by omega)];simp)
theorem q1o:∀(l:List S)(y:S),y∈l->gS y<=gL l
 |[],y,h=>by cases h
 | a::r,y,h=>by
   rw[gL];rcases x4v.1 h with rfl|h
   .omega
   .have:=q1o r y h;omega
def UL:∀(k:Nat)(l:List S)(_:gL l<k)(n:Int)(_:0<=n/\n<=20001),aP 36 [eSs l,.int .i64 n] (.int .i64 (XY (n+gL l))):=by
 intro k;induction k with
 |zero=>intro l h;omega
 | succ k u=>
   intro l J n D;have B:=S.avs_len l;refine sC KN func36 ?_;conv=>whnf
   skip
   refine lI (fun y:Nat×Int=>⟨[(0,.p (eSs l)),(1,.j y.2),(5,.j y.1)],[]⟩) (fun y=>y.1<=l.length/\(0<=y.2/\y.2<=20001)/\XY (y.2+gL (l.drop y.1))=XY (n+gL l)) (fun y=>l.length-y.1) (0,n) ⟨x4j _,D,rfl⟩ ?_;rintro⟨j,m⟩ ⟨e,w,o⟩;simp only at e w o⊢;rcases x4f j l.length with t|t;rotate_left 1
   .rw [x4l t,gL]at o;conv=>whnf
    repeat' ((first|(refine iM fun _=>?_)|(apply bD<;>intro _<;>try omega))<;>conv=>whnf)
    exact RetK.int (by rw[<-o,D1 (by omega)];simp)
   rw[x5j t,gL]at o;have E:=q1o l _ (x4h t);have z:=q9b l[j];have F:=XO (a:=m+gXx l[j].x) (by omega);have G:=XO (a:=XY (m+gXx l[j].x)+PF l[j].Y) (by omega);have H:=XO (a:=XY (XY (m+gXx l[j].x)+PF l[j].Y)+(1+l[j].name.length:Nat)) (by omega);conv=>whnf
   repeat' ((first|(refine gX ?_;intros)|refine dA ?_|refine cP (UA (gXx l[j].x+1) l[j].x (by omega) m w) ?_ (ha:=.cons (Sub.refl _) (.cons (Sub.refl _) .nil))|refine cP (XR l[j].Y _ F) ?_|refine cP (QT l[j].name _ G) ?_|refine cP (QT l[j].C _ H) ?_|(apply bD<;>intro _<;>try omega))<;>conv=>whnf)
   rotate_left 1
   .exact RetK.int (by rw[<-o];exact YL (by omega) w.2 (by omega))
   have c:=XO (a:=XY (XY (XY (m+gXx l[j].x)+PF l[j].Y)+(1+l[j].name.length:Nat))+(1+l[j].C.length:Nat)) (by omega);have b:XY (XY (XY (XY (XY (m+gXx l[j].x)+PF l[j].Y)+(1+l[j].name.length:Nat))+(1+l[j].C.length:Nat))+(Jt l[j].args+(gL l[j].V+gL l[j].Z+gL (l.drop (j+1))):Nat))=XY (n+gL l):=by
    rw[ZU (by omega),x9i,ZU (by omega),x9i,ZU (by omega),x9i,ZU (by omega),<-o,z];congr 1;omega
   generalize XY (XY (XY (XY (m+gXx l[j].x)+PF l[j].Y)+(1+l[j].name.length:Nat))+(1+l[j].C.length:Nat))=m0 at c b⊢;have A:(l[j].args.map fun a=>AV.agg a.cells).length=l[j].args.length:=x3a _;refine lI (fun y:Nat×Int=>⟨[(0,.p (eSs l)),(1,.j y.2),(5,.j j),(6,.p (.ip l[j].cells)),(7,.j y.1)],[]⟩) (fun y=>y.1<=l[j].args.length/\(0<=y.2/\y.2<=20001)/\XY (y.2+(Jt (l[j].args.drop y.1)+(gL l[j].V+gL l[j].Z+gL (l.drop (j+1))):Nat))=XY (n+gL l)) (fun y=>l[j].args.length-y.1) (0,m0) ⟨x4j _,c,b⟩ ?_;rintro⟨a,i⟩ ⟨f,q,r⟩;simp only at f q r⊢;have fin:XY (i+(gL l[j].V+gL l[j].Z+gL (l.drop (j+1)):Nat))=XY (n+gL l)->(0<=XY (XY (i+gL l[j].V)+gL l[j].Z)/\XY (XY (i+gL l[j].V)+gL l[j].Z)<=20001)/\XY (XY (XY (i+gL l[j].V)+gL l[j].Z)+gL (l.drop (j+1)))=XY (n+gL l):=fun h=>by
    have:=XO (a:=i+gL l[j].V) (by omega);refine⟨XO (by omega),?_⟩;rw[ZU (by omega),x9i,ZU (by omega),<-h];congr 1;omega
   have d:=XO (a:=i+gL l[j].V) (by omega);have s:i>20000->XY (i+(gL l[j].V+gL l[j].Z+gL (l.drop (j+1)):Nat))=XY (n+gL l):=fun h=>by
    rw[<-r,<-YL h q.2 (by omega),<-YL h q.2 (by omega)]
   rcases x4f a l[j].args.length with ha|ha;rotate_left 1
   .have g:XY (i+(gL l[j].V+gL l[j].Z+gL (l.drop (j+1)):Nat))=XY (n+gL l):=by
     rw[x4l ha,Jt,x6i]at r;exact r
    obtain⟨f1,f2⟩:=fin g;conv=>whnf
    repeat' ((first|(refine gX ?_;intros)|refine dA ?_|refine cP (u l[j].V (by omega) i q) ?_ (ha:=.cons (Sub.refl _) (.cons (Sub.refl _) .nil))|refine cP (u l[j].Z (by omega) _ d) ?_ (ha:=.cons (Sub.refl _) (.cons (Sub.refl _) .nil))|(apply bD<;>intro _<;>try omega))<;>conv=>whnf)
    all_goals exact nX (j+1,XY (XY (i+gL l[j].V)+gL l[j].Z)) ⟨by simp only;omega,f1,f2⟩
   rw[x5j ha,Jt]at r;have I:=XO (a:=i+gXx l[j].args[a].x) (by omega);conv=>whnf
   repeat' ((first|(refine gX ?_;intros)|refine dA ?_|refine cP (UA (gXx l[j].args[a].x+1) l[j].args[a].x (by omega) i q) ?_ (ha:=.cons (Sub.refl _) (.cons (Sub.refl _) .nil))|refine cP (QT l[j].args[a].name _ I) ?_|refine cP (u l[j].V (by omega) i q) ?_ (ha:=.cons (Sub.refl _) (.cons (Sub.refl _) .nil))|refine cP (u l[j].Z (by omega) _ d) ?_ (ha:=.cons (Sub.refl _) (.cons (Sub.refl _) .nil))|(apply bD<;>intro _<;>try omega))<;>conv=>whnf)
   .have v:XY (XY (XY (i+gXx l[j].args[a].x)+(1+l[j].args[a].name.length:Nat))+(Jt (l[j].args.drop (a+1))+(gL l[j].V+gL l[j].Z+gL (l.drop (j+1))):Nat))=XY (n+gL l):=by
     rw[ZU (by omega),x9i,ZU (by omega),<-r];congr 1;omega
    exact nX (a+1,XY (XY (i+gXx l[j].args[a].x)+(1+l[j].args[a].name.length:Nat))) ⟨by simp only;omega,XO (by omega),v⟩
   .obtain ⟨f1,f2⟩:=fin (s (by omega));exact nX (j+1,XY (XY (i+gL l[j].V)+gL l[j].Z)) ⟨by simp only;omega,f1,f2⟩
def AJ{s:Str}(h:isName s=true):s≠[]:=fun i=>by
 subst i;unfold isName at h;rw[dif_neg (by simp)]at h;cases h
def avI(rows:List (List Int)):List (List AV):=rows.map fun r=>r.map (.int .i64)
def Zb(n:Nat)(N P:List (List Int)):Heap:=[(1000,.obj 236 [.hd 2001 0 n,.hd 2002 0 n]),(2001,.ext (.mat 56 3 1 (avI N) [])),(2002,.ext (.mat 56 3 1 (avI P) []))]
def ZT(n:Nat)(a:Int):Bool:=decide (0<=a)&&decide (a<n)
def F9(n:Nat)(N P:List (List Int))(a:Int):
  aH 185 [.ptr 1000 0,.j a] (Zb n N P) (.p (.bool (ZT n a))) (Zb n N P):=by
 refine sK KO func185 ?_;conv=>whnf
 repeat' (apply bD<;>intro _<;>first|omega|conv=>whnf)
 .exact ⟨_,x9x (Sub.bool (by unfold ZT;simp;omega)),rfl,rfl⟩
 .exact ⟨_,x9x (Sub.ff (by unfold ZT;simp;omega)),rfl,rfl⟩
def x2l(N:List (List Int)):Prop:=∀r∈N,r.Pairwise (· <= ·)/\r.length<=100000000
def Gv(N:List (List Int))(a:Nat)(b:Int):List (List Int):=N.set a (Zp (N.getD a []) ((N.getD a []).countP (· < b)) b)
def CQ{N:List (List Int)}{i:Nat}(h:i<N.length)(b:Int):avI (Gv N i b)=(avI N).set i ((Zp N[i] (N[i].countP (· < b)) b).map (.int .i64)):=by
 unfold avI Gv;rw[x5d];simp[h]
def P1(n:Nat)(N P:List (List Int))(a b:Int)(C:N.length=n)(D:P.length=n)(F:n<=5000)(e:x2l N)(f:x2l P):
  SpecH prog 242 [.ptr 1000 0,.j a,.j b] (Zb n N P) (fun r H=>∃t,r=.p (.bool t)/\H=Zb n
   (bif ZT n a&&ZT n b && !(N.getD a.toNat []).contains b then Gv N a.toNat b else N) (bif ZT n a&&ZT n b && !(N.getD a.toNat []).contains b then Gv P b.toNat a else P)):=by
 refine sK Qo func242 ?_;conv=>whnf
 repeat' ((first|refine x4e rfl ?_|(apply bN<;>intro _)|(refine cH [(1000,1000),(2001,2001),(2002,2002)] 0 (F9 n N P _) ?_))<;>conv=>whnf)
 rotate_left 1
 .exact ⟨_,x9x (Sub.ff rfl),false,rfl,by simp[*];rfl⟩
 .exact ⟨_,x9x (Sub.ff rfl),false,rfl,by simp[*];rfl⟩
 have ha:0<=a/\a<n:=by rename_i h _;unfold ZT at h;simpa using h
 have E:0<=b/\b<n:=by rename_i h;unfold ZT at h;simpa using h
 have c:ZT n a=true:=by assumption
 have d:ZT n b=true:=by assumption
 obtain⟨i,rfl⟩ : ∃i:Nat,a=i:=⟨a.toNat,by omega⟩;obtain⟨j,rfl⟩ : ∃j:Nat,b=j:=⟨b.toNat,by omega⟩;have s:i<N.length:=by omega
 have u:j<P.length:=by omega
 obtain⟨w,g⟩:=e _ (x4h s);obtain⟨y,A⟩:=f _ (x4h u);have l:(avI N)[i]?=some (N[i].map (.int .i64)):=by unfold avI;simp[s]
 have m:(avI P)[j]?=some (P[j].map (.int .i64)):=by unfold avI;simp[u]
 have z:N.getD (i:Int).toNat []=N[i]:=by simp[s]
 have B:P.getD (j:Int).toNat []=P[j]:=by simp[u]
 refine iO i ?_;conv=>whnf
 repeat' ((first|refine x9q i _ (by omega) l (by simp) ?_|(apply bB<;>intro _)|(refine QC (JZ N[i] j w (by omega)) (.cons (.row rfl l (by simp)) (.cons (.p (Sub.refl _)) .nil)) (by rintro _ rfl;rfl) ?_;rintro _ rfl))<;>conv=>whnf)
 .exact ⟨_,x9x (Sub.ff rfl),false,rfl,by rw[z,c,d,show N[i].contains (j:Int)=true by assumption];rfl⟩
 have o:N[i].countP (· < (j:Int))<=N[i].length:=z0h;refine ZF ⟨[(0,.ptr 1000 0),(1,.j i),(2,.j j)],Zb n (Gv N i j) P⟩ ?_ ?_
 .refine DrawK.of XM mixed (.cons 13 true (.cons 0 false (.cons 1 false (.cons 2 false (.cons 4 false (.cons 5 false (.cons 6 false (.cons 7 false (.cons 9 false (.alo 8 (.alo 10 (.alo 11 (.alo 12 (.fork 3 (.cons 14 true (.cons 15 true (.cons 16 true (.cons 17 true .nil)))) 14 (.fork 3 (.cons 15 true (.cons 16 true (.cons 17 true .nil))) 15 (.cons 3 true (.cons 16 true (.cons 17 true .nil)))))))))))))))))) (by kernel_rfl) ?_;conv=>whnf
  repeat' ((first|refine x4e rfl ?_|refine aD ?_|refine iO i ?_|refine x9q i _ (by omega) l (by simp) ?_|refine x9p (fun x v=>by rcases x4w.1 v with rfl;rfl) rfl ?_|(refine ZA XM rfl rfl rfl rfl rfl rfl rfl rfl rfl (by decide) i [] (by omega) (by unfold avI;rw[x3a];omega) (by rw[x3a,Ws o]) ⟨by simp,by simp,by simp⟩ ?_)|refine CallK.focus 2001 i 1 rfl rfl l (by simp) rfl (.row (.cons rfl (.cons rfl .nil))) ?_|(refine cH [(2000,1),(1000,0)] 0 (Qy N[i] (N[i].countP (· < (j:Int))) j o (by omega)) ?_ (ha:=(x5w (x8o (by rw[x3a];rfl)) (x5w (x4c _) (x5w (x4c _) x6e)))))|refine x4e ?_ ?_)<;>conv=>whnf)
  all_goals exact Le.of_eq (by unfold Zb;rw[CQ s])
 conv=>whnf
 have q:P[j].countP (· < (i:Int))<=P[j].length:=z0h;repeat' ((first|refine x4e rfl ?_|refine iO j ?_|refine x9q j _ (by omega) m (by simp) ?_|(refine QC (JZ P[j] i y (by omega)) (.cons (.row rfl m (by simp)) (.cons (.p (Sub.refl _)) .nil)) (by rintro _ rfl;rfl) ?_;rintro _ rfl))<;>conv=>whnf)
 refine ZF ⟨[],Zb n (Gv N i j) (Gv P j i)⟩ ?_ ?_
 .refine DrawK.of XM mixed (.cons 13 true (.cons 0 false (.cons 1 false (.cons 2 false (.cons 4 false (.cons 5 false (.cons 6 false (.cons 7 false (.cons 9 false (.alo 8 (.alo 10 (.alo 11 (.alo 12 (.fork 3 (.cons 14 true (.cons 15 true (.cons 16 true (.cons 17 true .nil)))) 14 (.fork 3 (.cons 15 true (.cons 16 true (.cons 17 true .nil))) 15 (.cons 3 true (.cons 16 true (.cons 17 true .nil)))))))))))))))))) (by kernel_rfl) ?_;conv=>whnf
  repeat' ((first|refine x4e rfl ?_|refine aD ?_|refine iO j ?_|refine x9q j _ (by omega) m (by simp) ?_|refine x9p (fun x v=>by rcases x4w.1 v with rfl;rfl) rfl ?_|(refine ZA XM rfl rfl rfl rfl rfl rfl rfl rfl rfl (by decide) j [] (by omega) (by unfold avI;rw[x3a];omega) (by rw[x3a,Ws q]) ⟨by simp,by simp,by simp⟩ ?_)|refine CallK.focus 2002 j 1 rfl rfl m (by simp) rfl (.row (.cons rfl (.cons rfl .nil))) ?_|(refine cH [(2000,1),(1000,0)] 0 (Qy P[j] (P[j].countP (· < (i:Int))) i q (by omega)) ?_ (ha:=(x5w (x8o (by rw[x3a];rfl)) (x5w (x4c _) (x5w (x4c _) x6e)))))|refine x4e ?_ ?_)<;>conv=>whnf)
  all_goals exact Le.of_eq (by unfold Zb;rw[CQ u])
 conv=>whnf
 skip
 exact⟨_,x9x (Sub.tt rfl),true,rfl,by rw[z,c,d,show N[i].contains (j:Int)=false by assumption];rfl⟩
section
variable {P:Program}{T:Tab}{N:Nat}
def q4q{β:Lab}{k:Nat}{H H':Heap}{d:Chunk}{w w':World}{i:BInfo}(h:HRel σ β H w)(z:k∈H.map (·.1))(x:β k=some i)(m:Frm (fun b=>b=i.blk) w w')(q:H'.map (·.1)=H.map (·.1))(C:∀j c,(j,c)∈H'->j≠k->(j,c)∈H)(D:∀c,(k,c)∈H'->c=d)(u:d.holds σ β w' k):HRel σ β H' w'/\Later σ β H w σ β H' w':=by
 have v:=h.apart k z i x;refine⟨⟨fun b cs l=>?_,fun j c o=>?_,by rw[q];exact h.nodup,fun j o i' n b l=>?_,fun j o F y=>h.inj j (q▸o) F (q▸y)⟩,Mem.le_refl σ,⟨m.os,m.tape,m.output,m.drawn,m.size,fun b l E=>m.block b l fun s=>E ⟨k,z,i,x,.inl s.symm⟩⟩,
  fun b A B=>absurd A B,fun b ⟨j,o,r⟩=>.inl ⟨j,q▸o,r⟩,fun _ _ _=>rfl⟩
 .obtain ⟨e,g,a⟩:=h.mem b cs l;exact⟨e,g,(m.block b (x4t.1 a).1 fun s=>by rw[s,(v _ i.has_blk).1]at l;cases l).trans a⟩
 .by_cases p:j=k
  .subst p;rw[D c o];exact u
  .have f:=C j c o p;have t:j∈H.map (·.1):=x4y.2 ⟨_,f,rfl⟩;exact(h.chunks j c f).mono (Mem.le_refl σ) fun i' n b l=>m.block b (h.apart j t i' n b l).2 fun s=>p (h.inj j t k z i' i n x b l (.inl s.symm))
 .have:=h.apart j (q▸o) i' n b l;exact⟨this.1,x7o this.2 m.size⟩
theorem OpK.clear(hT:TabOK P T){s:St}{o:Oper}{K:St->Prop}{t:TypeId}{x:Operand}(hop:o.op=.call {callee:=.builtin .clear,args:=#[x],argTypes:=#[t]}){k off len:Nat}(A:QD s.sl x=.hd k off len){e sz:Nat}{es:List AV}(hg:getH s.H k=some (.own e sz es)){i F:TyI}(ht:T.get t=some i)(hd:i.desc=.slice e)(hte:T.get e=some F)(hz:F.zero.cells.size=sz)(hone:F.zero.cells.all (·.oneCell')=true)(hpos:0<sz)(h:Wv s.H k (.own e sz (es.take off)) fun H=>setD N s.sl o.dst (.p (.tup [])) fun sl=>K ⟨sl,H⟩):OpK P N s o K:=by
 refine⟨fun σ β a w l Q=>?_⟩;have Y:=QX l.E x;rw[A]at Y;generalize hxe:a.eval x=v at Y;obtain⟨H',hK,h3,h4,h5⟩:=VO l.heap.nodup h;have hlab:=QP hg;have hu:=hT.of ht;rw[hd]at hu;have hue:=hT _ _ hte;have G:RepL σ β (.p (.tup [])) (.tuple #[]):=.p (.tup [] #[] (fun _=>undef) rfl (by simp) (by simp));have hbc:∀{w'} ,(Builtin.clear_ #[t] o.type #[v]).run P w=.ok (.tuple #[]) w'->(execOp a.eval o).run P w=.ok (.value (.tuple #[])) w':=fun {w'} hc=>by
  simp[execOp,hop,resolve,invoke,builtin,hxe,hc]
 have hch:=l.heap.chunks k _ (QG hg);have B:len=0->(Builtin.clear_ #[t] o.type #[v]).run P w=.ok (.tuple #[]) w->(o.wp P a w (fun a' w'=>∃σ' β' s',K s'/\Rel N σ' β' s' a' w'/\Later σ β s.H w σ' β' s'.H w') Q):=fun _ g=>by
  have z:HRel σ β H' w/\Later σ β s.H w σ β H' w:=by
   refine⟨⟨l.heap.mem,fun j c y=>?_,by rw[h3];exact l.heap.nodup,fun j y=>l.heap.apart j (h3▸y),fun j y j' hj'=>l.heap.inj j (h3▸y) j' (h3▸hj')⟩,Mem.le_refl σ,Frm.refl _ w,fun b h0 h1=>absurd h0 h1,fun b ⟨j,y,r⟩=>.inl ⟨j,h3▸y,r⟩,fun _ _ _=>rfl⟩;by_cases hjk:j=k
   .subst hjk;rw[h5 c y];rcases hch with⟨C,h7⟩|⟨J,vs,C,h7,h8,h9,h10,L,M⟩
    .exact .inl ⟨C,by rw[h7];simp⟩
    .exact .inr ⟨J,vs,C,h7,h8,h9,by simp;omega,L,fun m x A=>M m x (by rw[x5s]at A;split at A;exact A;cases A)⟩
   .exact l.heap.chunks j c (h4 j c y hjk)
  have U:Rel N σ β ⟨s.sl,H'⟩ a w:=⟨l.size,l.defers,l.E,z.1⟩;obtain⟨sl,hK,V⟩:=U.setD G hK;exact XT (hbc g) ⟨σ,β,_,hK,V,z.2⟩
 rcases Y.hdI with⟨hk0,hoff,hlen,I⟩|⟨J,oo,hk,hfit,D,I⟩
 .subst I;refine B hlen ?_;simp[Builtin.clear_,run_underlying hu]
 by_cases hl0:len=0
 .subst hl0 I;refine B rfl ?_;simp[Builtin.clear_,run_underlying hu]
 rcases hch with⟨C,_⟩|⟨bi',vs,C,h7,h8,h9,h10,L,M⟩
 .rw [hk]at C;cases C
 rw[hk]at C;cases C;have D:oo=off*sz:=by
  rcases D with D|⟨O,_⟩
  .rw [D,h7]
  .omega
 obtain⟨zs,Z⟩ : ∃zs,zs=(Builtin.zeroCells F.zero.cells len).toList:=⟨_,rfl⟩;have hzl:zs.length=len*sz:=by rw[Z];simp[Builtin.zeroCells,hz]
 have hz1:∀v∈zs,v.oneCell'=true:=fun v I=>by
  rw[Z]at I;simp only[Builtin.zeroCells,Array.toList_map,x4y]at I;obtain⟨q,hq,rfl⟩:=I;have R:q%F.zero.cells.size<F.zero.cells.size:=mod_lt _ (by omega);rw[z1z F.zero.cells (q%F.zero.cells.size) R];exact Array.all_eq_true.1 hone _ R
 have hend:off*sz+len*sz<=vs.size:=by
  rw[h9,<-x6r];exact x5l _ hfit
 have hst:=run_storeCells_cells (P:=P) J.blk oo zs 0 w (fun j y=>by
   have:oo+0+j<vs.size:=by omega
   simp only[World.cell?,h8];rw[x6o this];rfl) (fun j y=>by simp[World.frozen?,h8]) hz1
 have g:(Builtin.clear_ #[t] o.type #[v]).run P w=.ok (.tuple #[]) (w.setCells J.blk oo zs):=by
  subst I;have hzv:(zeroValue e).run P w=.ok F.zero w:=by
   have:=hue.info;cases hq:P.info? e with
   |none=>rw[hq]at this;cases this
   | some f=>
     rw[hq]at this;simp at this;simp[zeroValue,typeInfo,hq,this]
  obtain⟨len',rfl⟩ : ∃l',len=l'+1:=⟨len-1,by omega⟩;simp only[x8d]at hst;simp[Builtin.clear_,Sem.run_bind,run_underlying hu,hzv,<-Z,hst]
 obtain⟨s1,s2⟩:=WP zs oo h8;have hnew:(Chunk.own e sz (es.take off)).holds σ β (w.setCells J.blk oo zs) k:=by
  refine .inr ⟨J,_,hk,h7,s1,by rw[UP];exact h9,by simp;omega,L,fun m x A=>?_⟩;rw[x5s]at A;split at A
  .rename_i hm;obtain⟨O,h14⟩:=M m x A;refine⟨O,fun j c y=>?_⟩;obtain⟨u,h15,h16⟩:=h14 j c y;have hjl:j<sz:=by rw[<-O];exact(x4u.1 y).1
   have R:m*sz+j<off*sz:=by
    have:(m+1)*sz<=off*sz:=x5l _ hm;rw[x6r]at this;omega
   exact⟨u,by rw[HD _ _ _ _ (by omega),if_neg (by omega)];exact h15,h16⟩
  .cases A
 obtain⟨hh,hl⟩:=q4q l.heap hlab hk s2 h3 h4 h5 hnew;have U:Rel N σ β ⟨s.sl,H'⟩ a (w.setCells J.blk oo zs):=⟨l.size,l.defers,l.E,hh⟩;obtain⟨sl,hK,V⟩:=U.setD G hK;exact XT (hbc g) ⟨σ,β,_,hK,V,hl⟩
end
def XZ(p:Step):List Step->List Step
 |[]=>[]
 |b::r=>bif ZH b p then XZ b r else b::XZ b r
def NV:List Step->List Step
 |[]=>[]
 |a::r=>a::XZ a r
def Mc{l:List Step}(h:l.length<2):NV l=l:=by
 match l,h with
 |[],_=>rfl
 |[a],_=>rfl
def avS(l:List Step):List AV:=l.map fun s=>.agg s.cells
def Qu(l:List Step)(f:l.length<=1000000000):
  aH 228 [.hd 1000 0 l.length,.p (.fn 229 [])] [(1000,.own 225 3 (avS l))] (.hd 1000 0 (NV l).length) [(1000,.own 225 3 (avS (NV l)))]:=by
 refine sK WG func228 ?_;conv=>whnf
 repeat' ((first|(refine iM fun _=>?_)|(apply bD<;>intro _<;>try omega))<;>conv=>whnf)
 .have e:NV l=l:=Mc (by omega);rw[e];exact⟨_,x4c _,rfl,rfl⟩
 refine lI (fun k:Nat=>⟨[(0,.hd 1000 0 l.length),(1,.p (.fn 229 [])),(5,.j k)],[(1000,.own 225 3 (avS l))]⟩) (fun k=>1<=k/\k<=l.length/\∃a,l[k-1]?=some a/\l.take k++XZ a (l.drop k)=NV l) (fun k=>l.length-k) 1 ⟨x4m _,by omega,?_⟩ ?_
 .cases l with
  |nil=>simp at*
  |cons a r=>exact⟨a,rfl,rfl⟩
 rintro k ⟨H,I,a,ha,s⟩;rcases x4f k l.length with t|t;rotate_left 1
 .rw [x4l t,x4b t]at s;conv=>whnf
  repeat' ((first|(refine iM fun _=>?_)|(apply bD<;>intro _<;>try omega))<;>conv=>whnf)
  rw[<-s,XZ,x5m];exact⟨_,x4c _,rfl,rfl⟩
 rw[x5j t,XZ]at s;have b:k-1<l.length:=by omega
 obtain⟨_,z⟩:=x4u.1 ha;have v:(avS l)[k]?=some (.agg l[k].cells):=by simp[avS,t]
 have m:(avS l)[k-1]?=some (.agg a.cells):=by simp[avS,ha]
 conv=>whnf
 repeat' ((first|(refine gX ?_;intros)|refine cP (Uz _ _) ?_|refine dA ?_|refine iO k ?_|refine iO (k-1) ?_|refine lO v ?_|refine lO m ?_|refine x9r k l.length rfl rfl (by omega) (by omega) ?_|((first|apply bD|apply bB)<;>intro _<;>try omega))<;>conv=>whnf)
 rotate_left 1
 .have h:ZH l[k] a=false:=by assumption
  rw[h,x5q]at s;exact nX (k+1) ⟨by omega,by omega,l[k],by simp[t],by rw[<-s,x4k t,x4r];rfl⟩
 have h:ZH l[k] a=true:=by assumption
 rw[h,x4s]at s;clear ha z v m b h;refine lI (fun x:Nat×Nat×List Step=>⟨[(0,.hd 1000 0 l.length),(1,.p (.fn 229 [])),(5,.j x.2.1),(6,.hd 1000 (0+k) (l.length-k)),(7,.j x.1)],[(1000,.own 225 3 (avS x.2.2))]⟩) (fun x=>1<=x.1/\x.1<=l.length-k/\x.2.1<=k+x.1-1/\x.2.2.length=l.length/\x.2.2.drop (k+x.1-1)=l.drop (k+x.1-1)/\∃a,l[k+x.1-1]?=some a/\x.2.2.take x.2.1++XZ a (l.drop (k+x.1))=NV l) (fun x=>l.length-k-x.1) (1,k,l) ⟨x4m _,by simp only;omega,by simp only;omega,rfl,rfl,l[k],by simp[t],s⟩ ?_;rintro⟨q,i,es⟩ ⟨A,B,C,w,u,a,ha,n⟩;clear s;simp only at A B C w u ha n⊢;have D:(avS es).length=l.length:=by simp[avS,w]
 rcases x4f q (l.length-k)with G|G
 .have o:k+q<l.length:=by omega
  have d:es[k+q]?=l[k+q]?:=by
   have:=x6h (fun x=>x[1]?) u;simp only[x5o]at this
   rwa[show k+q-1+1=k+q by omega]at this
  have e2:es[k+q-1]?=some a:=by
   have:=x6h (fun x=>x[0]?) u;simp only[x5o,x8d]at this;rw[this,ha]
  rw[x3e o]at d;have v:(avS es)[k+q]?=some (.agg l[k+q].cells):=by simp[avS,d]
  have m:(avS es)[k+q-1]?=some (.agg a.cells):=by simp[avS,e2]
  have E:i<es.length:=by omega
  have g:(avS es)[i]?=some (.agg es[i].cells):=by simp[avS,E]
  rw[x5j o,XZ]at n;conv=>whnf
  repeat' ((first|(refine gX ?_;intros)|refine cP (Uz _ _) ?_|refine dA ?_|refine iO q ?_|refine iO (q-1) ?_|refine iO i ?_|refine lO v ?_|refine lO m ?_|refine x8l i 0 (.agg es[i].cells) (.agg l[k+q].cells) (by omega) g (show 3<=3 from x4m 3) rfl ?_|((first|apply bD|apply bN)<;>intro _<;>try omega))<;>conv=>whnf)
  .have h:ZH l[k+q] a=true:=by assumption
   rw[h,x4s]at n;exact nX (q+1,i,es) ⟨by simp only;omega,by simp only;omega,by simp only;omega,w,by
    have:=x6h (List.drop 1) u;simp only[z0f]at this;simpa only[show k+(q+1)-1=k+q-1+1 by omega]using this,l[k+q],by simp[o],n⟩
  .have h:ZH l[k+q] a=false:=by assumption
   rw[h,x5q]at n;have y:(es.set i l[k+q]).drop (k+q)=l.drop (k+q):=by
    rw[List.drop_set_of_lt (by omega)];have:=x6h (List.drop 1) u;simp only[z0f]at this
    rwa[show k+q-1+1=k+q by omega]at this
   exact⟨(q+1,i+1,es.set i l[k+q]),⟨by simp only;omega,by simp only;omega,by simp only;omega,by simp only[x6x];exact w,y,l[k+q],by simp[o],by
    simp only;rw[<-n,x4k (by simp;omega),List.take_set_of_le (by omega),List.getElem_set_self,x4r];rfl⟩,by simp only;omega,Le.of_eq (by simp only[avS,x5d];rfl)⟩
 .have c:k+q=l.length:=by omega
  rw[c,List.drop_length,XZ,x5m]at n;conv=>whnf
  repeat' ((first|(refine gX ?_;intros)|refine x9r i l.length rfl rfl (by omega) (by omega) ?_|(apply bD<;>intro _<;>try omega))<;>conv=>whnf)
  refine OpK.clear XM rfl rfl rfl rfl rfl rfl rfl (by kernel_rfl) (by decide) ?_;conv=>whnf
  repeat' ((first|refine x4e rfl ?_|refine x9r 0 i rfl rfl (by omega) (by omega) ?_)<;>conv=>whnf)
  have F:i=(NV l).length:=by rw[<-n];simp;omega
  exact⟨_,x8o (by rw[<-F];rfl),rfl,by rw[x6i,<-n];simp[avS,List.map_take]⟩
def VY(l:List Step):List Step:=NV (KF l)
def Ux(l:List Step)(i:∀s∈l,okSt s)(h:l.length<=1000000000):
  aH 176 [.hd 1000 0 l.length] [(1000,.own 225 3 (avS l))] (.hd 1000 0 (VY l).length) [(1000,.own 225 3 (avS (VY l)))]:=by
 refine sK Mx func176 ?_;conv=>whnf
 repeat' ((first|(refine cH rH5 0 (Yc l i h) ?_)|(refine cH rH5 0 (Qu (KF l) (by rw[Xo];exact h)) ?_ (ha:=(x5w (x8o (by rw[Xo];rfl)) (x5w (x4c _) x6e)))))<;>conv=>whnf)
 exact⟨_,x4c _,rfl,rfl⟩
end Go.Ab
