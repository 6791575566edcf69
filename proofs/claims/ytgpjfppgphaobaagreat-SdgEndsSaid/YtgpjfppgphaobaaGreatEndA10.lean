/- The library's contracts at this seat's program, in plain words (printed by the kit's lay-plain.mjs). Conditions: none. -/
import Derived.Shelf.Sort.Plain
import Derived.Shelf.Slices.In.SortNone
import Derived.Shelf.Slices.CompactS
import Derived.Ground.Names2Prog
import Derived.Shelf.Slices.SearchI
import Derived.Shelf.Slices.Empties
import Derived.Shelf.Spec.SlicesInsert
import Derived.Shelf.Spec.SlicesInsertGrow
import Derived.Test.YtgpjfppgphaobaaGreatProg
import Derived.Test.YtgpjfppgphaobaaGreatEndA9
set_option linter.all false
set_option maxRecDepth 100000
set_option maxHeartbeats 16000000
namespace Go.Proofs
open Go.Shelf Tryz
def Tryz.lays190_ren:Go.Shelf.Ren:=⟨fun|190=>86|125=>150|258=>149|128=>200|129=>201|302=>191|303=>192|304=>193|305=>194|306=>195|307=>196|308=>197|309=>198|310=>199|333=>244|329=>245|330=>246|334=>247|335=>248|336=>181|344=>269|n=>n,fun|31=>22|9=>9|3=>3|46=>210|0=>0|51=>249|53=>251|4=>4|183=>242|182=>241|131=>90|5=>5|218=>281|222=>285|228=>303|229=>304|n=>n,fun|n=>n⟩
theorem kT9{α:Type}{x:Option α}{a b:α}(h:x=some a)(e:a=b:=by kernel_rfl):x=some b:=e▸h
def Zz:Go.Proofs.Lays.n190 Tryz.prog Tryz.lays190_ren:=⟨by kernel_rfl,kT9 func150,kT9 func200,kT9 func201,kT9 func86,kT9 func149,kT9 func191,kT9 func192,kT9 func193,kT9 func194,kT9 func195,kT9 func196,kT9 func197,kT9 func198,kT9 func199,kT9 func245,kT9 func246,kT9 func244,kT9 func247,kT9 func248,kT9 func181,kT9 func269,underlying0,isAgg0,sizeOf0,zeroValue0,underlying3,isAgg3,sizeOf3,zeroValue3,underlying4,isAgg4,sizeOf4,zeroValue4,underlying5,isAgg5,sizeOf5,zeroValue5,underlying9,isAgg9,sizeOf9,zeroValue9,underlying22,isAgg22,sizeOf22,zeroValue22,underlying210,isAgg210,sizeOf210,zeroValue210,underlying249,isAgg249,sizeOf249,zeroValue249,underlying251,isAgg251,sizeOf251,zeroValue251,underlying90,isAgg90,sizeOf90,zeroValue90,underlying241,isAgg241,sizeOf241,zeroValue241,underlying242,isAgg242,sizeOf242,zeroValue242,underlying281,isAgg281,sizeOf281,zeroValue281,underlying285,isAgg285,sizeOf285,zeroValue285,underlying303,isAgg303,sizeOf303,zeroValue303,underlying304,isAgg304,sizeOf304,zeroValue304⟩
def Tryz.lays194_ren:Go.Shelf.Ren:=⟨fun|194=>148|n=>n,fun|31=>22|9=>9|3=>3|4=>4|0=>0|n=>n,fun|n=>n⟩
def Zw:Go.Proofs.Lays.n194 Tryz.prog Tryz.lays194_ren:=⟨by kernel_rfl,kT9 func148,underlying0,isAgg0,sizeOf0,zeroValue0,underlying3,isAgg3,sizeOf3,zeroValue3,underlying4,isAgg4,sizeOf4,zeroValue4,underlying9,isAgg9,sizeOf9,zeroValue9,underlying22,isAgg22,sizeOf22,zeroValue22⟩
def Tryz.laysB_ren:Go.Shelf.Ren:=⟨fun|25=>267|31=>285|32=>286|37=>172|n=>n,fun|22=>56|3=>3|4=>4|40=>210|0=>0|n=>n,fun|n=>n⟩
def K8:Go.Proofs.Lays2.n25 Tryz.prog Tryz.laysB_ren:=⟨by kernel_rfl,kT9 func267,kT9 func285,kT9 func286,kT9 func172,underlying0,isAgg0,sizeOf0,zeroValue0,underlying3,isAgg3,sizeOf3,zeroValue3,underlying4,isAgg4,sizeOf4,zeroValue4,underlying56,isAgg56,sizeOf56,zeroValue56,underlying210,isAgg210,sizeOf210,zeroValue210⟩
def Tryz.laysI_ren:Go.Shelf.Ren:=⟨fun|21=>268|27=>287|28=>288|35=>292|39=>294|n=>n,fun|22=>56|3=>3|4=>4|0=>0|n=>n,fun|n=>n⟩
def GU:Go.Proofs.Lays2.n21 Tryz.prog Tryz.laysI_ren:=⟨by kernel_rfl,kT9 func268,kT9 func287,kT9 func288,kT9 func292,kT9 func294,underlying0,isAgg0,sizeOf0,zeroValue0,underlying3,isAgg3,sizeOf3,zeroValue3,underlying4,isAgg4,sizeOf4,zeroValue4,underlying56,isAgg56,sizeOf56,zeroValue56,by kernel_rfl⟩
end Go.Proofs
namespace Go.Ab
open Go.Proofs.Tryz
open Go.Proofs Go.Sort
variable {α:Type}{b clock j k:Nat}{e:TypeId}{es:Array MapEntry}{l:List Str}{p:Pg}{s:Str}{v:Value}{vs:Array Value}{w:World}{β:Lab}{σ:Mem}
def D0{c c':Chunk}{w':World}{i:BInfo}(h:HRel σ β [(k,c)] w)(y:β k=some i)(q:Frm (fun b=>b=i.blk) w w')(u:c'.holds σ β w' k):HRel σ β [(k,c')] w'/\Later σ β [(k,c)] w σ β [(k,c')] w':=by
 have r:=h.apart k (by simp) i y;refine⟨⟨fun b cs m=>?_,fun j d n=>?_,by simp,fun j n i' o b m=>?_,fun j n B t _ _ _ _ _ _ _=>?_⟩,Mem.le_refl σ,⟨q.os,q.tape,q.output,q.drawn,q.size,fun b m A=>q.block b m fun x=>A ⟨k,by simp,i,y,.inl x.symm⟩⟩,
  fun b f g=>absurd f g,fun b ⟨j,n,i',o,m⟩=>.inl ⟨j,by simpa using n,i',o,m⟩,fun _ _ _=>rfl⟩
 .obtain ⟨e,a,z⟩:=h.mem b cs m;exact⟨e,a,(q.block b (x4t.1 z).1 fun x=>by rw[x,(r _ i.has_blk).1]at m;cases m).trans z⟩
 .simp at n;obtain⟨rfl,rfl⟩:=n;exact u
 .simp at n;subst n;rw[y]at o;cases o;exact⟨(r b m).1,x7o (r b m).2 q.size⟩
 .simp at n t;rw[n,t]
def YZ(h:w.heap[b]?=some (.cells vs e (0,0)))(o:Nat):w.frozen? ⟨b,o,none⟩=false:=by
 simp[World.frozen?,h]
def HX(h:w.heap[b]?=some (.cells vs e (0,0)))(o:Nat):w.cell? ⟨b,o,none⟩=vs[o]?:=by
 simp[World.cell?,h]
def Z7[Inhabited α]{enc:α->Value}{n:Nat}{d:Array α}{os:Array Obj}(h:w.heap[b]?=some (.cells vs e (0,0)))(m:b<w.heap.size):
  Frm (fun x=>x=b) w (grow (putRow enc (Sort.ahead w n) b 0 d) os)/\(grow (putRow enc (Sort.ahead w n) b 0 d) os).heap[b]?=some (.cells (putCells enc 0 d vs) e (0,0)):=by
 have i:(grow (putRow enc (Sort.ahead w n) b 0 d) os).heap=w.heap.modify b (onCells (putCells enc 0 d))++os:=rfl;refine⟨⟨rfl,rfl,rfl,Nat.le_add_right _ _,?_,fun k o q=>?_⟩,?_⟩
 .rw [i];simp
 .rw [i,x8r (by simpa using o),x7l,if_neg (x7d q)]
 .rw [i,x8r (by simpa using m),x7l,if_pos rfl,h];rfl
def DM[Inhabited α]{enc:α->Value}{d:Array α}(m:d.size<=vs.size)(i:k<d.size):(putCells enc 0 d vs)[k]?=some (enc d[k]):=by
 unfold putCells;have h:k<vs.size:=by omega
 simp[h,i]
def Te(h:∀(m:Nat)(x:AV),(l.map AV.str)[m]?=some x->x.cells.length=1/\∀(j:Nat)(c:AV),x.cells[j]?=some c->∃u:Value,vs[m*1+j]?=some u/\Rep σ c u)(q:j<l.length):
  vs[j]?=some (encStr l[j])/\l[j].length<=maxLen:=by
 obtain⟨u,i,n⟩:=(h j (.str l[j]) (by simp[q])).2 0 (.str l[j]) rfl;cases n with
 |str _ o=>exact⟨by simpa using i,o⟩
def Ti(h:∀j (n:j<l.length),vs[j]?=some (encStr l[j]))(t:∀s∈l,s.length<=maxLen):∀(m:Nat)(x:AV),(l.map AV.str)[m]?=some x->x.cells.length=1/\∀(j:Nat)(c:AV),x.cells[j]?=some c->∃u:Value,vs[m*1+j]?=some u/\Rep σ c u:=by
 intro m x i;rw[x4q]at i;cases q:l[m]?with
 |none=>rw[q]at i;cases i
 | some s=>
   rw[q]at i;cases i;obtain⟨r,rfl⟩:=x4u.1 q;refine⟨rfl,fun j c n=>?_⟩;have o:j=0:=by
    have:=(x4u.1 n).1;simpa[AV.cells]using this
   subst o;simp only[AV.cells,x9a,x7c]at n;subst n;exact⟨_,by simpa using h m r,.str _ (t _ (x4h r))⟩
def q8k{m:Array Value}{l:LV}(h:m.size=[l].length):∃v,m=#[v]:=⟨m[0]'(by simp at h;omega),by apply Array.ext;simpa using h;intro i o n;simp at n;subst n;rfl⟩
def P5{n:Nat}{i:BInfo}(h:RepL σ β (.hd k 0 n) v)(r:β k=some i):v=.slice (some ⟨i.blk,0,none⟩) n i.cap:=by
 rcases h.hdI with⟨m,_⟩|⟨i',o,m,u,q,t⟩
 .rw [r]at m;cases m
 .rw [r]at m;cases m;rcases q with q|q
  .rw [t,q];simp
  .omega
def RK{n:Nat}(h:RepL σ β (.hd k 0 n) v)(m:β k=none):v=.slice none 0 0/\n=0:=by
 rcases h.hdI with⟨_,_,q,r⟩|⟨i',o,i,_⟩
 .exact ⟨r,q⟩
 .rw [m]at i;cases i
def YK(l:List Str):List Str:=l.mergeSort fun x y=>decide (x<=y)
def VM(l:List Str)(F:l.length<=1000000000):
  SpecH prog 86 [.hd 1000 0 l.length] [(1000,.own 9 1 (l.map .str))] (fun r H=>r=.p (.tup [])/\H=[(1000,.own 9 1 ((YK l).map .str))]):=by
 refine⟨call86,fun σ β w I R q hH=>?_⟩;obtain⟨v,rfl⟩:=q8k R;have q:=q 0 _ rfl;simp only[x8y,x5g,x8c,Array.getD_eq_getD_getElem?]at q;have q:RepL σ β (.hd 1000 0 l.length) v:=by simpa using q
 have c:=hH.chunks 1000 _ x4z;have h:(YK l).length=l.length:=by unfold YK;simp
 rcases c with⟨a,f⟩|⟨i,vs,y,B,g,D,E,J,K⟩
 .have A:l=[]:=by simpa using f
  subst A;obtain⟨rfl,_⟩:=RK q a;have t:=Any.slices_Sort_string_none Zz none 0 w;change Calls prog 86 _ _ _ at t;refine t.mono ?_;rintro e w' ⟨rfl,rfl⟩;exact⟨.p (.tup []),.tuple #[],σ,β,_,rfl,⟨rfl,rfl⟩,.p (.tup [] #[] (fun _=>undef) rfl (by simp) (by simp)),by simpa[YK]using hH,by simpa[YK]using Later.refl _ _ _ _⟩
 .have C:=P5 q y;subst C;have x:=(hH.apart 1000 (by simp) i y i.blk i.has_blk).2;have Q:l.length<=vs.size:=by rw[D,x9f];simpa using E
  have m:=fun j o=>Te (σ:=σ) (l:=l) K (j:=j) o;have t:=Any.slices_Sort_string Zz i.blk 0 i.cap l w (fun j o=>by
   have u:j<l.length:=by simpa using o
   refine⟨?_,YZ g _⟩;rw[HX g,x6i,(m j u).1];simp[u]) x (by omega)
  change Calls prog 86 _ _ _ at t;refine t.mono ?_;rintro e w' ⟨rfl,n,os,rfl⟩;obtain⟨O,M⟩:=Z7 (enc:=encStr) (n:=n) (os:=os) (d:=(YK l).toArray) g x;obtain⟨z,L⟩:=D0 (c':=.own 9 1 ((YK l).map .str)) hH y O (.inr ⟨i,_,y,B,M,by simpa[putCells]using D,by simpa[h]using E,J,Ti (fun j o=>by
   have:=DM (enc:=encStr) (d:=(YK l).toArray) (vs:=vs) (by simp[h];omega) (k:=j) (by simpa using o);simpa using this) fun s G=>by
    have:s∈l:=by unfold YK at G;simpa using G
    obtain⟨j,o,rfl⟩:=x6u.1 this;exact(m j o).2⟩)
  exact⟨.p (.tup []),.tuple #[],σ,β,_,rfl,⟨rfl,rfl⟩,.p (.tup [] #[] (fun _=>undef) rfl (by simp) (by simp)),z,L⟩
def Kg(l:List Str):(Go.Lib.compact l).length<=l.length:=by
 unfold Go.Lib.compact Go.Lib.compactUpTo;rw[x3a];exact x5y (x6p _ _) (by simp)
def NU(h:s∈Go.Lib.compact l):s∈l:=by
 unfold Go.Lib.compact Go.Lib.compactUpTo at h;obtain⟨j,m,rfl⟩:=x4y.1 h;have:=(x5h.1 m).1;have i:j<l.length:=by simpa using this
 simp[i]
def Q4[Inhabited α]{enc:α->Value}{d:Array α}{o:Nat}:(putCells enc o d vs).size=vs.size:=by simp[putCells]
def KE(l:List Str)(J:l.length<=1000000000):
  SpecH prog 148 [.hd 1000 0 l.length] [(1000,.own 9 1 (l.map .str))] (fun r H=>r=.hd 1000 0 (Go.Lib.compact l).length/\H=[(1000,.own 9 1 ((Go.Lib.compact l).map .str))]):=by
 refine⟨call148,fun σ β w K U o hH=>?_⟩;obtain⟨v,rfl⟩:=q8k U;have o:=o 0 _ rfl;have o:RepL σ β (.hd 1000 0 l.length) v:=by simpa using o
 have c:=hH.chunks 1000 _ x4z;have Q:=Kg l;rcases c with⟨t,f⟩|⟨i,vs,y,C,g,E,F,L,M⟩
 .have A:l=[]:=by simpa using f
  subst A;obtain⟨rfl,_⟩:=RK o t;have u:=Any.slices_Compact_string_empty Zw none 0 w;change Calls prog 148 _ _ _ at u;refine u.mono ?_;rintro e w' ⟨rfl,rfl⟩;exact⟨.hd 1000 0 0,.slice none 0 0,σ,β,_,rfl,⟨rfl,rfl⟩,.hdn 1000 t,by simpa[Go.Lib.compact,Go.Lib.compactUpTo]using hH,by simpa[Go.Lib.compact,Go.Lib.compactUpTo]using Later.refl _ _ _ _⟩
 .have D:=P5 o y;subst D;have B:=(hH.apart 1000 (by simp) i y i.blk i.has_blk).2;have R:l.length<=vs.size:=by rw[E,x9f];simpa using F
  have x:l.length<=i.cap:=by simpa using F
  have h:=fun j m=>Te (σ:=σ) (l:=l) M (j:=j) m;have u:=Any.slices_Compact_string Zw i.blk 0 i.cap l w (fun j m=>by
   have z:j<l.length:=by simpa using m
   refine⟨?_,YZ g _⟩;rw[HX g,x6i,(h j z).1];simp[z]) (by omega) x
  change Calls prog 148 _ _ _ at u;refine u.mono ?_;rintro e w' ⟨rfl,q,rfl⟩;obtain⟨I,G⟩:=Z7 (enc:=encStr) (n:=q) (os:=#[]) (d:=(Go.Lib.compact l++List.replicate (l.length-(Go.Lib.compact l).length) []).toArray) g B;rw[grow_empty]at I G;obtain⟨a,O⟩:=D0 (c':=.own 9 1 ((Go.Lib.compact l).map .str)) hH y I (.inr ⟨i,_,y,C,G,by rw[Q4];exact E,by simp;omega,L,Ti (fun j m=>by
   have:=DM (enc:=encStr) (d:=(Go.Lib.compact l++List.replicate (l.length-(Go.Lib.compact l).length) []).toArray) (vs:=vs) (by simp;omega) (k:=j) (by simp;omega);rw[this];simp[List.getElem_append_left m]) fun s V=>by
    obtain⟨j,m,rfl⟩:=x6u.1 (NU V);exact(h j m).2⟩)
  refine⟨.hd 1000 0 (Go.Lib.compact l).length,_,σ,β,_,rfl,⟨rfl,rfl⟩,?_,a,O⟩;have:=z1v (σ:=σ) (β:=β) 1000 0 (Go.Lib.compact l).length i 0 y (by omega) (.inl (by simp));simpa using this
def DS(q:(QO p).1=0){f:Pr}(o:f∈p.A){t:S}(r:t∈flL f.body):KY p f (QK p) t=true:=by
 obtain⟨_,_,h⟩:=KG q;have i:=List.findSome?_eq_none_iff.1 h f o;unfold YU at i;cases m:(UQ (Lg f)||(Lg f).any fun n=>p.F.any fun s=>n==s)<;>rw[m]at i
 .simp only[x5q,Option.map_eq_none_iff]at i;have:=x9b.1 i t r;simpa using this
 .cases i
def Xs(q:(QO p).1=0){f:Pr}(n:f∈p.A){t:S}(r:t∈flL f.body)(o:t.kind=4):t.C∈QK p/\t.C≠mainS:=by
 have:=DS q n r;unfold KY at this;simp only[x4n,x7r,x5k]at this;rcases this.2 with h|h
 .exact absurd o h
 .simp only[x7w,x9c,ne_eq]at h;refine⟨?_,h.1⟩;obtain⟨s,i,m⟩:=x6s.1 h.2;have:=eq_of_beq m;exact this▸i
def HQ(f:Pr):List Str:=((flL f.body).filter fun t=>decide (t.kind=4)).map S.C
def GK(f:Pr):List Str:=Go.Lib.compact (YK (HQ f))
def XJ:s∈YK l↔s∈l:=by unfold YK;simp
def ZY(l:List Str):(YK l).length=l.length:=by unfold YK;simp
def S9(f:Pr):(GK f).length<=QJ f.body:=by
 have:=Kg (YK (HQ f));rw[ZY]at this;unfold GK;refine x5y this ?_;unfold HQ;rw[x3a,<-U8];exact x6p _ _
def Zu(r:(QO p).1=0){f:Pr}(q:f∈p.A)(h:s∈GK f):s∈QK p:=by
 have i:=XJ.1 (NU h);obtain⟨t,m,rfl⟩:=x4y.1 i;obtain⟨n,o⟩:=x5h.1 m;exact(Xs r q n (by simpa using o)).1
def JV{n:Str}(h:n∈QK p):∃(k:Nat) (o:k<p.A.length),idxF (fun f=>f.name==n) p.A=k/\p.A.find? (fun f=>f.name==n)=some p.A[k]/\p.A[k].name=n:=by
 have q:p.A.any (fun f=>f.name==n)=true:=by
  obtain⟨f,i,m⟩:=x4y.1 h;exact x6s.2 ⟨f,i,by simp[m]⟩
 obtain⟨k,o,i,m,r⟩:=RH q;exact⟨k,o,i,r,by simpa using m⟩
def R1(p:Pg)(n:Str)(k:Nat)(B:k<p.A.length)(d:idxF (fun f=>f.name==n) p.A=k)(c:cntP p.A<=1000):aP 84 [.ip (sheetOf p).cells,.str n] (eStrs (GK p.A[k])):=by
 refine sC H9 func84 ?_;conv=>whnf
 repeat' ((first|(refine iM fun _=>?_)|refine cP (ZD _ _) ?_|refine cP (Hh p (j:=k) (f:=p.A[k]'B) (by simp) c) ?_ (ha:=.cons (Sub.refl _) (.cons (Sub.int (by exact d)) .nil)))<;>conv=>whnf)
 have m:=Xj (k:Nat) 0 (-1) 0 (QS p.A k) p.A[k].body;have x:(itL (k:Nat) 0 (-1) 0 (QS p.A k) p.A[k].body).length<=1000:=by
  have:=(QU p).2.2.2.2 k p.A[k] (by simp);rw[XS];omega
 generalize y:itL (k:Nat) 0 (-1) 0 (QS p.A k) p.A[k].body=its at m x⊢;have g:=WZ its;have t:HQ p.A[k]=(its.filter fun o=>decide (o.s.kind=4)).map fun o=>o.s.C:=by
  unfold HQ;rw[<-m,List.filter_map,x8t];rfl
 refine lJ (fun i:Nat×List Str=>⟨[(5,.hd 0 0 i.2.length),(12,.p (ZE its)),(13,.p (.int .i64 (its.map fun i=>AV.agg i.cells).length)),(14,.j i.1)],[(0,.own 9 1 (i.2.map .str))]⟩) (fun i=>i.1<=its.length/\i.2.length<=i.1/\i.2++((its.drop i.1).filter fun o=>decide (o.s.kind=4)).map (fun o=>o.s.C)=HQ p.A[k]) (fun i=>its.length-i.1) (0,[]) (lM [(0,.own 9 1 [])]) ⟨x4j _,x4m _,by rw[t];rfl⟩ ?_;rintro⟨j,h⟩ ⟨z,a,q⟩;simp only at z a q⊢;rcases x4f j its.length with u|u
 .conv=>whnf
  repeat' ((first|(refine gX ?_;intros)|refine pS ?_|(apply bD<;>intro _<;>try omega))<;>conv=>whnf)
  .exact ⟨(j+1,h++[its[j].s.C]),⟨by simp only;omega,by simp;omega,by simp only;rw[<-q,QM u,x9v,if_pos (by simp[*])];simp⟩,by simp only;omega,Le.of_eq (by simp only[x3o,x4d];rfl)⟩
  .exact nX (j+1,h) ⟨by simp only;omega,by simp only;omega,by simp only;rw[<-q,QM u,x9v,if_neg (by simp[*])]⟩
 .have r:h=HQ p.A[k]:=by
   rw[x4l u]at q;simpa using q
  conv=>whnf
  repeat' ((first|(apply bD<;>intro _<;>try omega)|(refine cH rH1 0 (VM h (by omega)) ?_)|(refine cH rH1 0 (KE (YK h) (by rw[ZY];omega)) ?_ (ha:=(x5w (x8o (by rw[ZY];rfl)) x6e))))<;>conv=>whnf)
  exact⟨_,.hd rfl (by simp),by unfold GK;rw[<-r];rfl⟩
def XW(out:List Str):List Str->List Str
 |[]=>out
 |n::r=>XW (if(out.any fun s=>n==s)=true then out else out++[n]) r
def Vb{out:List Str}(h:j<l.length):XW out (l.drop j)=XW (if(out.any fun s=>l[j]==s)=true then out else out++[l[j]]) (l.drop (j+1)):=by
 rw[QM h,XW]
theorem VT{p:Pg}:∀(l:List Str){out:List Str},out.Nodup->(∀s∈out,s∈QK p)->(∀s∈l,s∈QK p)->(XW out l).Nodup/\(∀s∈XW out l,s∈QK p)/\∃r,XW out l=out++r
 |[],out,h1,h2,_=>⟨h1,h2,[],by rw[XW];simp⟩
 | n::r,out,h1,h2,h3=>by
   rw[XW];split
   .exact VT r h1 h2 fun s h=>h3 s (x4x _ h)
   .rename_i y;have i:n∉out:=fun x=>y (x6s.2 ⟨n,x,by simp⟩);obtain⟨o,q,z,t⟩:=VT (p:=p) r (out:=out++[n]) (x7u.2 ⟨h1,by simp,fun a ha b m=>by simp at m;subst m;exact fun u=>i (u▸ha)⟩) (fun s h=>by
     rcases x4g.1 h with h|h
     .exact h2 s h
     .simp at h;subst h;exact h3 _ x4z) fun s h=>h3 s (x4x _ h)
    exact⟨o,q,n::z,by rw[t];simp⟩
def US(p:Pg)(n:Str):List Str:=match p.A.find? (fun f=>f.name==n)with
 |some f=>GK f
 |none=>[]
def UC(p:Pg):Nat->Nat->List Str->List Str
 |0,_,out=>out
 | fuel+1,i,out=>match out[i]?with
   |some n=>UC p fuel (i+1) (XW out (US p n))
   |none=>out
def Iz(p:Pg)(n:Str):List Str:=YK (UC p (p.A.length+1) 0 [n])
theorem YG{α:Type}[BEq α][LawfulBEq α]:∀{l m:List α},l.Nodup->(∀s∈l,s∈m)->l.length<=m.length
 |[],m,_,_=>x4j _
 | a::r,m,h1,h2=>by
   have ha:=h2 a x4z;have:=YG (l:=r) (m:=m.erase a) (x6q.1 h1).2 fun s h=>(List.mem_erase_of_ne fun i=>(x6q.1 h1).1 (by rw[<-i];exact h)).2 (h2 s (x4x _ h));rw[List.length_erase_of_mem ha]at this;have:=x9h ha;simp only[x5g];omega
def By{n:Str}(i:k<p.A.length)(h:p.A.find? (fun f=>f.name==n)=some p.A[k]):US p n=GK p.A[k]:=by
 unfold US;rw[h]
def FL(m:(QO p).1=0){n:Str}(h:s∈US p n):s∈QK p:=by
 unfold US at h;split at h
 .rename_i f i;exact Zu m (x8h i) h
 .cases h
def EP(p:Pg)(n:Str)(H:(QO p).1=0)(U:n∈QK p):aP 52 [.ip (sheetOf p).cells,.str n] (eStrs (Iz p n)):=by
 refine sC Mf func52 ?_;conv=>whnf
 obtain⟨R,hb,Z⟩:=KG H;obtain⟨hg,hpl,M⟩:=VD R;have Y:(QK p).length=p.A.length:=by simp[QK]
 repeat' ((first|refine x4e rfl ?_|refine aD ?_|refine x9p (fun x hx=>by rcases x4w.1 hx with rfl;rfl) rfl ?_)<;>conv=>whnf)
 refine lI (fun i:Nat×List Str=>⟨[(0,.p (.ip (sheetOf p).cells)),(5,.hd 0 0 i.2.length),(6,.j i.1)],[(0,.own 9 1 (i.2.map .str))]⟩) (fun i=>i.1<=i.2.length/\i.2.Nodup/\(∀s∈i.2,s∈QK p)/\UC p (p.A.length+1-i.1) i.1 i.2=UC p (p.A.length+1) 0 [n]) (fun i=>p.A.length+1-i.1) (0,[n]) ⟨x4j _,by simp,by simpa using U,rfl⟩ ?_;rintro⟨j,out⟩ ⟨I,g,f,t⟩;simp only at I g f t⊢;have hol:=YG g f;rcases x4f j out.length with c|c
 .obtain ⟨k,F,E,D,V⟩:=JV (f _ (x4h c));have C:=S9 p.A[k];have L:QJ p.A[k].body<=200:=by
   have:=(QU p).2.2.2.2 k p.A[k] (by simp);omega
  conv=>whnf
  repeat' ((first|(refine gX ?_;intros)|refine x6b j rfl c ?_|refine z1q j 0 (.str out[j]) (by omega) (by simp[c]) ?_|refine cP (R1 p out[j] k F E (by omega)) ?_ (ha:=.cons (Sub.refl _) (.cons (Sub.refl _) .nil))|(apply bD<;>intro _<;>try omega))<;>conv=>whnf)
  have d:∀s∈GK p.A[k],s∈QK p:=fun s h=>Zu H (x4h F) h;have B:=By F D;have r:UC p (p.A.length+1-j) j out=UC p (p.A.length+1-(j+1)) (j+1) (XW out (GK p.A[k])):=by
   rw[show p.A.length+1-j=(p.A.length+1-(j+1))+1 by omega,UC,x3e c];simp only;rw[B]
  rw[r]at t;obtain⟨y,z,rr,a⟩:=VT (GK p.A[k]) g f d;generalize GK p.A[k]=cs at d t y z a C⊢;have G:(cs.map AV.str).length=cs.length:=x3a _;refine lI (fun i:Nat×List Str=>⟨[(0,.p (.ip (sheetOf p).cells)),(5,.hd 0 0 i.2.length),(6,.j j),(22,.p (eStrs cs)),(23,.p (.int .i64 (cs.map AV.str).length)),(24,.j i.1)],[(0,.own 9 1 (i.2.map .str))]⟩) (fun i=>i.1<=cs.length/\i.2.length<=out.length+i.1/\XW i.2 (cs.drop i.1)=XW out cs) (fun i=>cs.length-i.1) (0,out) ⟨x4j _,by simp,rfl⟩ ?_;rintro⟨m,q⟩ ⟨J,K,u⟩;simp only at J K u⊢;rcases x4f m cs.length with o|o
  .conv=>whnf
   repeat' ((first|(refine gX ?_;intros)|(refine QC (QZ q (cs[m]'o)) (.cons (.hd rfl (by simp)) (.cons (.p (Sub.refl _)) .nil)) (by rintro _ rfl;rfl) ?_;rintro _ rfl)|refine pS ?_|((first|apply bD|apply bN)<;>intro _<;>try omega))<;>conv=>whnf)
   .exact nX (m+1,q) ⟨by simp only;omega,by simp only;omega,by simp only;rw[<-u,Vb o,if_pos (by assumption)]⟩
   .exact ⟨(m+1,q++[cs[m]]),⟨by simp only;omega,by simp;omega,by simp only;rw[<-u,Vb o,if_neg (by simp[*])]⟩,by simp only;omega,Le.of_eq (by simp only[x3o,x4d];rfl)⟩
  .rw [x4l o,XW]at u;subst u;have O:out.length<=(XW out cs).length:=by rw[a];simp
   conv=>whnf
   repeat' ((first|refine wI ?_|(apply bD<;>intro _<;>try omega))<;>conv=>whnf)
   exact nX (j+1,XW out cs) ⟨by simp only;omega,y,z,t⟩
 .have Q:j=out.length:=by omega
  have r:UC p (p.A.length+1-j) j out=out:=by
   rw[show p.A.length+1-j=(p.A.length-j)+1 by omega,UC,x6j (by omega)]
  rw[r]at t;conv=>whnf
  repeat' ((first|(refine iM fun _=>?_)|(apply bD<;>intro _<;>try omega)|(refine cH rH1 0 (VM out (by omega)) ?_))<;>conv=>whnf)
  exact⟨_,.hd rfl (by simp[ZY]),by unfold Iz;rw[<-t];rfl⟩
mutual
theorem q2q:∀(x:X)(out:List Str),(Ba x out).length<=out.length+wX x
 | .mk op n name kids,out=>by
   rw[Ba,wX];have:=Aq kids (if op=2/\(out.any fun s=>name==s)=false then out++[name]else out);split at this
   ·rename_i h;rw[if_pos h];simp at this;omega
   ·rename_i h;rw[if_neg h];omega
theorem Aq:∀(l:List X)(out:List Str),(DQ l out).length<=out.length+wXs l
 |[],out=>by rw[DQ];omega
 | x::r,out=>by
   have h1:=q2q x out;have h2:=Aq r (Ba x out);rw[DQ,wXs];omega
end
def Wc(x:X):(XL x).length<=wX x:=by
 unfold XL;have:=q2q x [];cases Ij x<;>simp at this⊢;exact this
theorem Yz:∀l:List Arg,(l.flatMap JR).length<=Z4 l
 |[]=>by simp
 | a::r=>by
   have h:=Yz r;have i:=Wc a.x;simp only[x6d,x3o,Z4];have m:(JR a).length<=1+(XL a.x).length:=by
    unfold JR;cases a.ref<;>simp;omega
   omega
def OW(t:S):(ZP t).length<=wS t:=by
 have h:=Yz t.args;have i:=Wc t.x;rw[C4];have m:(DF t).length<=1+(XL t.x).length:=by
  unfold DF;cases(decide (t.kind≠10) && !(t.name==[]):Bool)<;>simp;omega
 unfold ZP;rw[x3o];omega
def Mm{b:Bool}(h:b=true):Sub (.bool b) .tt:=fun _ _ i=>by subst h;cases i;exact .tt
def R2(p:Pg)(m:Fit p)(q:(QO p).1=0)(n:Str)(o:n∈QK p):aP 51 [.agg p.cells,.str n] .tt:=by
 refine sC Hq func51 ?_;conv=>whnf
 repeat' ((first|refine cP (JC p m) ?_|refine cP (WS p.A 83 (.ip [.str n]) (fun f=>f.name==n) (D9 n)) ?_|(apply bD<;>intro _<;>try omega))<;>conv=>whnf)
 have:p.A.any (fun f=>f.name==n)=true:=by
  obtain⟨f,h,i⟩:=x4y.1 o;exact x6s.2 ⟨f,h,by simp[i]⟩
 exact⟨_,.p (Mm this),rfl⟩
def Au(p:Pg)(t:S):List Str:=(ZP t).filter fun v=>p.F.any fun s=>v==s
def Je(p:Pg)(n:Str):List Str:=match p.A.find? (fun f=>f.name==n)with
 |some f=>(flL f.body).flatMap (Au p)
 |none=>[]
def DW(p:Pg)(n:Str):List Str:=(Iz p n).flatMap (Je p)
def KS(p:Pg)(n:Str):List Str:=Go.Lib.compact (YK (DW p n))
theorem Gu{p:Pg}(m:(QO p).1=0):∀(fuel i:Nat)(out:List Str),out.Nodup->(∀s∈out,s∈QK p)->(UC p fuel i out).Nodup/\∀s∈UC p fuel i out,s∈QK p
 |0,i,out,h1,h2=>by rw[UC];exact⟨h1,h2⟩
 | fuel+1,i,out,h1,h2=>by
   rw[UC];split
   .obtain ⟨n,o,_⟩:=VT (US p _) h1 h2 fun s h=>FL m h;exact Gu m fuel (i+1) _ n o
   .exact ⟨h1,h2⟩
def Ie(q:(QO p).1=0){n:Str}(o:n∈QK p):(Iz p n).length<=p.A.length/\∀s∈Iz p n,s∈QK p:=by
 obtain⟨m,i⟩:=Gu q (p.A.length+1) 0 [n] (by simp) (by simpa using o);unfold Iz;rw[ZY];refine⟨?_,fun s h=>i s (XJ.1 h)⟩;have:=YG m i;simpa[QK]using this
def YB{β:Type}{f:α->List β}{l:List α}(h:j<l.length):(l.drop j).flatMap f=f l[j]++(l.drop (j+1)).flatMap f:=by
 rw[QM h,x6d]
def D8(p:Pg)(hf:Fit p)(E:(QO p).1=0)(n:Str)(U:n∈QK p):aP 102 [.agg p.cells,.str n] (eStrs (KS p n)):=by
 refine sC Vz func102 ?_;conv=>whnf
 obtain⟨D,hb,hns⟩:=KG E;obtain⟨hg,hpl,hcn⟩:=VD D;repeat' ((first|(refine iM fun _=>?_)|refine cP (R2 p hf E n U) ?_|refine cP (EP p n E U) ?_|refine cP (BN p (by omega) (by omega)) ?_ (ha:=.cons (Sub.refl _) .nil))<;>conv=>whnf)
 obtain⟨H,d⟩:=Ie E U;have K:KS p n=Go.Lib.compact (YK (DW p n)):=rfl;have g:DW p n=(Iz p n).flatMap (Je p):=rfl;rw[K];generalize Iz p n=ns at H d g⊢;have hnl:(ns.map AV.str).length=ns.length:=x3a _;refine lJ (fun i:Nat×List Str=>⟨[(2,.p (.ip p.cells)),(5,.p (.ip (sheetOf p).cells)),(6,.hd 0 0 i.2.length),(21,.p (eStrs ns)),(22,.p (.int .i64 (ns.map AV.str).length)),(23,.j i.1)],[(0,.own 9 1 (i.2.map .str))]⟩) (fun i=>i.1<=ns.length/\i.2.length<=4200000*i.1/\i.2++(ns.drop i.1).flatMap (Je p)=DW p n) (fun i=>ns.length-i.1) (0,[]) (lM [(0,.own 9 1 [])]) ⟨x4j _,by simp,by rw[g];rfl⟩ ?_;rintro⟨j,o⟩ ⟨h2,h3,z⟩;simp only at h2 h3 z⊢;rcases x4f j ns.length with C|C;rotate_left 1
 .have c:o=DW p n:=by
   rw[x4l C]at z;simpa using z
  rw[<-c];conv=>whnf
  repeat' ((first|(apply bD<;>intro _<;>try omega)|(refine cH rH1 0 (VM o (by omega)) ?_)|(refine cH rH1 0 (KE (YK o) (by rw[ZY];omega)) ?_ (ha:=(x5w (x8o (by rw[ZY];rfl)) x6e))))<;>conv=>whnf)
  exact⟨_,.hd rfl (by simp),rfl⟩
 obtain⟨k,hk,Q,I,hnk⟩:=JV (d _ (x4h C));have L:Je p ns[j]=(flL p.A[k].body).flatMap (Au p):=by unfold Je;rw[I]
 rw[YB C,L]at z;have J:=hf.pr (x4h hk);have B:p.A[k]?=some p.A[k]:=by simp
 conv=>whnf
 repeat' ((first|(refine gX ?_;intros)|refine cP (ZD _ _) ?_|refine cP (Hh p (j:=k) (f:=p.A[k]'hk) B (by omega)) ?_ (ha:=.cons (Sub.refl _) (.cons (Sub.int (by exact Q)) .nil))|(apply bD<;>intro _<;>try omega))<;>conv=>whnf)
 have y:=Xj (k:Nat) 0 (-1) 0 (QS p.A k) p.A[k].body;have u:∀m (D:m<(itL (k:Nat) 0 (-1) 0 (QS p.A k) p.A[k].body).length),wS (itL (k:Nat) 0 (-1) 0 (QS p.A k) p.A[k].body)[m].s<=21000:=fun m D=>by
  have R:(itL (k:Nat) 0 (-1) 0 (QS p.A k) p.A[k].body)[m].s∈flL p.A[k].body:=by
   rw[<-y];exact x4y.2 ⟨_,x4h D,rfl⟩
  have:=Mi _ _ R;unfold wPr at J;omega
 have O:(itL (k:Nat) 0 (-1) 0 (QS p.A k) p.A[k].body).length<=200:=by
  have:=(QU p).2.2.2.2 k p.A[k] B;rw[XS];omega
 rw[<-y]at z;generalize hits:itL (k:Nat) 0 (-1) 0 (QS p.A k) p.A[k].body=its at u O z⊢;have hil:=WZ its;refine lI (fun i:Nat×List Str=>⟨[(2,.p (.ip p.cells)),(5,.p (.ip (sheetOf p).cells)),(6,.hd 0 0 i.2.length),(21,.p (eStrs ns)),(22,.p (.int .i64 (ns.map AV.str).length)),(23,.j j),(31,.p (ZE its)),(32,.p (.int .i64 (its.map fun i=>AV.agg i.cells).length)),(33,.j i.1)],[(0,.own 9 1 (i.2.map .str))]⟩) (fun i=>i.1<=its.length/\i.2.length<=o.length+21000*i.1/\i.2++(((its.drop i.1).map Item.s).flatMap (Au p)++(ns.drop (j+1)).flatMap (Je p))=DW p n) (fun i=>its.length-i.1) (0,o) ⟨x4j _,by simp,z⟩ ?_;rintro⟨m,r⟩ ⟨h6,h7,a⟩;simp only at h6 h7 a⊢;rcases x4f m its.length with x|x;rotate_left 1
 .rw [x4l x]at a;conv=>whnf
  repeat' ((first|refine wI ?_|(apply bD<;>intro _<;>try omega))<;>conv=>whnf)
  exact nX (j+1,r) ⟨by simp only;omega,by simp only;omega,by simpa using a⟩
 have hw:=u m x;have V:its[m].s.args.length<=21000:=by
  have:=C4 its[m].s;have:=BW its[m].s.args;omega
 have Y:=OW its[m].s;rw[x5j x,x4o,x6d,x4r]at a;have M:Au p its[m].s=(ZP its[m].s).filter fun v=>p.F.any fun s=>v==s:=rfl;conv=>whnf
 repeat' ((first|(refine gX ?_;intros)|refine cP (Km _ V) ?_|(apply bD<;>intro _<;>try omega))<;>conv=>whnf)
 rw[M]at a;generalize ZP its[m].s=vs at Y a⊢;have hvl:(vs.map AV.str).length=vs.length:=x3a _;refine lI (fun i:Nat×List Str=>⟨[(2,.p (.ip p.cells)),(5,.p (.ip (sheetOf p).cells)),(6,.hd 0 0 i.2.length),(21,.p (eStrs ns)),(22,.p (.int .i64 (ns.map AV.str).length)),(23,.j j),(31,.p (ZE its)),(32,.p (.int .i64 (its.map fun i=>AV.agg i.cells).length)),(33,.j m),(39,.p (eStrs vs)),(40,.p (.int .i64 (vs.map AV.str).length)),(41,.j i.1)],[(0,.own 9 1 (i.2.map .str))]⟩) (fun i=>i.1<=vs.length/\i.2.length<=r.length+i.1/\i.2++((vs.drop i.1).filter (fun v=>p.F.any fun s=>v==s)++(((its.drop (m+1)).map Item.s).flatMap (Au p)++(ns.drop (j+1)).flatMap (Je p)))=DW p n) (fun i=>vs.length-i.1) (0,r) ⟨x4j _,by simp,a⟩ ?_;rintro⟨q,t⟩ ⟨h9,G,h⟩;simp only at h9 G h⊢;rcases x4f q vs.length with Z|Z
 .rw [x5j Z,x9v]at h;conv=>whnf
  repeat' ((first|refine cP (QZ _ _) ?_|(refine gX ?_;intros)|refine pS ?_|((first|apply bD|apply bB)<;>intro _<;>try omega))<;>conv=>whnf)
  .exact ⟨(q+1,t++[vs[q]]),⟨by simp only;omega,by simp;omega,by rw[if_pos (by assumption)]at h;simpa using h⟩,by simp only;omega,Le.of_eq (by simp only[x3o,x4d];rfl)⟩
  .exact nX (q+1,t) ⟨by simp only;omega,by simp only;omega,by rw[if_neg (by simp[*])]at h;exact h⟩
 .rw [x4l Z]at h;conv=>whnf
  repeat' ((first|refine wI ?_|(apply bD<;>intro _<;>try omega))<;>conv=>whnf)
  exact nX (m+1,t) ⟨by simp only;omega,by simp only;omega,by simpa using h⟩
section
variable {P:Program}{T:Tab}{N:Nat}
def JQ(s:List UInt8):Value:=.string ⟨s.toArray⟩
def Iy(l:List (List UInt8×AV)):XC:=.map (l.map fun x=>(JQ x.1,x.2))
def PP{α:Type}(l:List (List UInt8×α))(k:List UInt8)(v:α):List (List UInt8×α):=
 match l with
 |[]=>[(k,v)]
 |x::r=>if k=x.1 then(x.1,v)::r else x::PP r k v
def M4{α:Type}(l:List (List UInt8×α))(k:List UInt8):Option α:=(l.find? fun x=>decide (k=x.1)).map (·.2)
def NX(h:MS es clock){e:MapEntry}(n:e.born=clock):MS (es.push e) (clock+1):=by
 refine⟨?_,fun x i=>?_⟩
 .rw [Array.toList_push,x4d,x7u];refine⟨h.1,by simp,fun a ha b m=>?_⟩;obtain⟨x,i,rfl⟩:=x4y.1 ha;have:=h.2 x i;simp only[x4o,z0d,x4w]at m;omega
 .rw [Array.toList_push]at i;rcases x4g.1 i with i|i
  .have:=h.2 x i;omega
  .rw [x4w.1 i,n];omega
theorem G5{α β:Type}(g:α->β)(f:α->α)(h:∀x,g (f x)=g x):∀(l:List α)(j:Nat),(l.modify j f).map g=l.map g
 |[],j=>by simp
 |x::r,0=>by simp[h]
 |x::r,j+1=>by simp[G5 g f h r j]
def GE(h:MS es clock)(j:Nat){f:MapEntry->MapEntry}(o:∀e,(f e).born=e.born):MS (es.modify j f) clock:=by
 have e:(es.modify j f).toList.map (·.born)=es.toList.map (·.born):=by
  rw[Array.toList_modify];exact G5 _ f o _ j
 refine⟨by rw[e];exact h.1,fun x q=>?_⟩;have i:x.born∈(es.modify j f).toList.map (·.born):=x4y.2 ⟨x,q,rfl⟩;rw[e]at i;obtain⟨y,m,n⟩:=x4y.1 i;rw[<-n];exact h.2 y m
theorem OpK.makeMap{s:St}{o:Oper}{K:St->Prop}{t:TypeId}(q:o.op=.makeMap t none)(h:HT 60 0 s fun k=>setD N s.sl o.dst (.ext k .map) fun sl=>K ⟨sl,(k,.ext (Iy []))::s.H⟩):OpK P N s o K:=by
 refine⟨fun σ β a w f Q=>?_⟩;obtain⟨k,z,h⟩:=YX h;have i:(Chunk.ext (Iy [])).holds σ (β.set k (some ⟨w.heap.size,0,0,[],x4j _⟩)) (w.alloc (.map #[] 0)) k:=
  ⟨⟨w.heap.size,0,0,[],x4j _⟩,#[],0,by simp[Lab.set],heap_alloc_new w _,⟨.nil,fun x g=>by cases g⟩,rfl,by simp⟩
 obtain⟨r,c⟩:=f.new z rfl rfl i;obtain⟨sl,y,m⟩:=r.setD (v:=.ext k .map) (u:=.map (some w.heap.size)) (.ext k .map ⟨w.heap.size,0,0,[],x4j _⟩ _ (by simp[Lab.set]) rfl) h;exact XT (w':=w.alloc (.map #[] 0)) (by simp[execOp,q,Instr.makeMap]) ⟨σ,_,_,y,m,c⟩
def MA(a b:List UInt8):((⟨a.toArray⟩:ByteArray)==⟨b.toArray⟩)=decide (a=b):=by
 show(a.toArray==b.toArray)=decide (a=b);by_cases h:a=b
 .subst h;simp
 .simp [h]
theorem FS{α:Type}(k:List UInt8):∀(es:List MapEntry)(l:List (List UInt8×α))(i:Nat),es.map (·.key)=l.map (fun x=>JQ x.1)->
  Instr.findNow .string (JQ k) es i=some (match l.findIdx? fun x=>decide (k=x.1)with
   |some j=>some (i+j,(es[j]?.map (·.val)).getD undef)
   |none=>none)
 |[],[],_,_=>rfl
 |[],_::_,_,h=>by cases h
 |_::_,[],_,h=>by cases h
 | e::es,x::l,i,h=>by
   simp only[x4o,List.cons.injEq]at h;have n:Instr.sameNow .string (JQ k) e.key=some (decide (k=x.1)):=by
    rw[h.1];show some ((⟨k.toArray⟩:ByteArray)==⟨x.1.toArray⟩)=_;rw[MA]
   rw[Instr.findNow,n,x9u];by_cases m:k=x.1
   .simp [m]
   .simp only[m,decide_false];rw[FS k es l (i+1) h.2];cases l.findIdx? fun x=>decide (k=x.1)with
    |none=>rfl
    |some j=>simp;omega
def Zk{l:List (List UInt8×AV)}(n:es.size=(l.map fun x=>(JQ x.1,x.2)).length)(o:∀(m:Nat)(x:Value×AV),(l.map fun x=>(JQ x.1,x.2))[m]?=some x->∃e:MapEntry,es[m]?=some e/\e.key=x.1/\Rep σ x.2 e.val):
  es.toList.map (·.key)=l.map (fun x=>JQ x.1):=by
 apply z0u;intro m;rw[x4q,x4q];cases i:l[m]?with
 | none=>
   have:es.toList[m]?=none:=by
    rw[x8g]at i⊢;simp at n⊢;omega
   rw[this];rfl
 | some x=>
   obtain⟨e,q,r,_⟩:=o m (JQ x.1,x.2) (by simp[i]);have h:es.toList[m]?=some e:=by simpa using q
   rw[h];simp[r]
def JJ{P:Program}{t:TypeId}(h:P.underlying t=some .string)(b:Bool)(k:List UInt8)(w:World):(Instr.checkKey b 10000 t (JQ k)).run P w=.ok () w:=by
 have e:Instr.checkKey b 10000 t (JQ k)=Instr.checkKey b (9999+1) t (JQ k):=rfl;rw[e,Instr.checkKey,Sem.run_bind,run_underlying h,Result.andThen_ok];rfl
def Tc{l:List UInt8}(h:RepL σ β (.p (.str l)) v):v=JQ l:=h.strV.1
def ZB{P:Program}{r:Nat}(h:w.heap[r]?=some (.map es clock)):(getObj r).run P w=.ok (.map es clock) w:=by simp[getObj,Sem.run,h]
def JK{P:Program}{r:Nat}(o:Obj)(h:w.heap[r]?=some (.map es clock)):(setObj r o).run P w=.ok () {w with heap:=w.heap.setIfInBounds r o}:=by simp[setObj,Sem.run,h]
theorem OpK.lookup(hT:TabOK P T){s:St}{o:Oper}{K:St->Prop}{t:TypeId}{x ix:Operand}(Z:o.op=.lookup t x ix false){k:Nat}(hx:QD s.sl x=.ext k .map){l:List (List UInt8×AV)}(hg:getH s.H k=some (.ext (Iy l))){ks:List UInt8}(hk:QD s.sl ix=.p (.str ks)){i ik:TyI}{kt et:TypeId}(ht:T.get t=some i)(hd:i.desc=.map kt et)(htk:T.get kt=some ik)(L:ik.desc=.string){v:AV}(A:M4 l ks=some v)(h:setD N s.sl o.dst (.p v) fun sl=>K ⟨sl,s.H⟩):OpK P N s o K:=by
 refine⟨fun σ β a w B Q=>?_⟩;have z:=QX B.E x;have c:=QX B.E ix;rw[hx]at z;rw[hk]at c;have V:=Tc c;generalize hxe:a.eval x=xv at z;cases z with
 | ext _ _ bi _ I J=>
   obtain rfl:xv=.map (some bi.blk):=J;obtain⟨bi',es,clock,q,hh,hbo,h1,h2⟩:=B.heap.chunks k _ (QG hg);rw[I]at q;cases q;have r:=Zk h1 h2;have hu:=hT.of ht;have u:=hT.of htk;rw[hd]at hu;rw[L]at u;obtain⟨j,hj,U⟩ : ∃j,(l.findIdx? fun x=>decide (ks=x.1))=some j/\∃x,l[j]?=some x/\x.2=v:=by
    unfold M4 at A;cases M:l.find? fun x=>decide (ks=x.1)with
    |none=>rw[M]at A;cases A
    | some x=>
      rw[M]at A;cases A;obtain⟨C,j,f,F,G⟩:=List.find?_eq_some_iff_getElem.1 M;refine⟨j,?_,x,by rw[x3e f,F],rfl⟩;rw[x8b];exact⟨f,by rw[F];exact C,fun i hi=>by simpa using G i hi⟩
   obtain⟨y,R,rfl⟩:=U;obtain⟨e,C,F,G⟩:=h2 j (JQ y.1,y.2) (by simp[R]);have m:=FS ks es.toList l 0 r;rw[hj]at m;have D:es.toList[j]?=some e:=by simpa using C
   simp only[D,x7t,x5b]at m;have g:(execOp a.eval o).run P w=.ok (.value e.val) w:=by
    have O:(Instr.findKey kt (JQ ks) es.toList).run P w=.ok (some (0+j,e.val)) w:=by
     unfold Instr.findKey;rw[Sem.run_bind,run_underlying u,Result.andThen_ok,m];rfl
    have Y:(Instr.lookup t (.map (some bi.blk)) (JQ ks) false).run P w=.ok e.val w:=by
     unfold Instr.lookup;rw[Sem.run_bind,run_underlying hu,Result.andThen_ok];simp only[Sem.run_bind,ZB hh,Result.andThen_ok,Sem.run_pure,JJ u,O];rfl
    simp only[execOp,Z,hxe,V,Sem.run_bind,Y,Result.andThen_ok];rfl
   obtain⟨sl,hK,hr'⟩:=B.setD (.p G) h;exact XT g ⟨σ,β,_,hK,hr',Later.refl _ _ _ _⟩
def J6{l:List (List UInt8×α)}{k:List UInt8}{v:α}(h:(l.findIdx? fun x=>decide (k=x.1))=none):PP l k v=l++[(k,v)]:=by
 induction l with
 |nil=>rfl
 | cons x r m=>
   rw[x9u]at h;by_cases i:k=x.1
   .simp [i]at h
   .simp [i]at h;rw[PP,if_neg i,m (by simpa using h)];rfl
def Na{l:List (List UInt8×α)}{k:List UInt8}{v:α}(h:(l.findIdx? fun x=>decide (k=x.1))=some j):∃x,l[j]?=some x/\PP l k v=l.set j (x.1,v):=by
 induction l generalizing j with
 |nil=>cases h
 | cons x r q=>
   rw[x9u]at h;by_cases i:k=x.1
   .simp [i]at h;subst h;exact⟨x,rfl,by rw[PP,if_pos i];rfl⟩
   .simp [i]at h;obtain⟨t,m,rfl⟩:=h;obtain⟨y,n,o⟩:=q m;exact⟨y,by simpa using n,by rw[PP,if_neg i,o];rfl⟩
theorem OpK.mapUpdate(hT:TabOK P T){s:St}{o:Oper}{K:St->Prop}{t:TypeId}{x ix vx:Operand}(hop:o.op=.mapUpdate t x ix vx)(D:o.dst=none){k:Nat}(hx:QD s.sl x=.ext k .map){l:List (List UInt8×AV)}(hg:getH s.H k=some (.ext (Iy l))){ks:List UInt8}(hk:QD s.sl ix=.p (.str ks)){v:AV}(hvx:QD s.sl vx=.p v){i ik:TyI}{kt et:TypeId}(ht:T.get t=some i)(hd:i.desc=.map kt et)(htk:T.get kt=some ik)(hdk:ik.desc=.string)(h:Wv s.H k (.ext (Iy (PP l ks v))) fun H=>K ⟨s.sl,H⟩):OpK P N s o K:=by
 refine⟨fun σ β a w g Q=>?_⟩;have hx':=QX g.E x;have hk':=QX g.E ix;have hv':=QX g.E vx;rw[hx]at hx';rw[hk]at hk';rw[hvx]at hv';have hkv:=Tc hk';generalize hxe:a.eval x=xv at hx';generalize hve:a.eval vx=vv at hv';cases hv' with
 |p hvr=>
 cases hx' with
 | ext _ _ A _ C hd'=>
   obtain rfl:xv=.map (some A.blk):=hd';obtain⟨bi',es,clock,L,hh,hbo,M,h2⟩:=g.heap.chunks k _ (QG hg);rw[C]at L;cases L;have hkeys:=Zk M h2;have hu:=hT.of ht;have G:=hT.of htk;rw[hd]at hu;rw[hdk]at G;have u:=FS ks es.toList l 0 hkeys;have F:=QP hg;have hlt:=(g.heap.apart k F A C A.blk A.has_blk).2;obtain⟨es',q,hrun,hbo',hsz,hent⟩ : ∃es' q,(Instr.mapUpdate t (.map (some A.blk)) (JQ ks) vv).run P w=.ok () {w with heap:=w.heap.setIfInBounds A.blk (.map es' q)}/\MS es' q/\es'.size=(PP l ks v).length/\
     ∀(m:Nat)(x:Value×AV),((PP l ks v).map fun x=>(JQ x.1,x.2))[m]?=some x->∃e:MapEntry,es'[m]?=some e/\e.key=x.1/\Rep σ x.2 e.val:=by
    cases f:l.findIdx? fun x=>decide (ks=x.1)with
    | none=>
      rw[f]at u;refine⟨es.push {key:=JQ ks,val:=vv,born:=clock},clock+1,?_,NX hbo rfl,?_,fun m y J=>?_⟩
      .have U:(Instr.findKey kt (JQ ks) es.toList).run P w=.ok none w:=by
        unfold Instr.findKey;rw[Sem.run_bind,run_underlying G,Result.andThen_ok,u];rfl
       unfold Instr.mapUpdate;rw[Sem.run_bind,run_underlying hu,Result.andThen_ok];simp only[Sem.run_bind,ZB hh,Result.andThen_ok,Sem.run_pure,JJ G,U,JK _ hh]
      .rw [J6 f];simpa using M
      .rw [J6 f]at J;simp only[x3a]at M;rw[x4d,x7e]at J;split at J
       .rename_i I;obtain⟨e,B,h4⟩:=h2 m y J;simp only[x3a]at I;exact⟨e,by rw[x9z,if_neg (by omega)];exact B,h4⟩
       .rename_i I;simp only[x3a]at I J;have hm0:m-l.length=0:=by
         have:=(x4u.1 J).1;simp at this;omega
        rw[hm0]at J;simp at J;subst J;exact⟨{key:=JQ ks,val:=vv,born:=clock},by rw[x9z,if_pos (by omega)],rfl,hvr⟩
    | some j=>
      rw[f]at u;obtain⟨y,hy1,hy2⟩:=Na (v:=v) f;obtain⟨e,B,h4,h5⟩:=h2 j (JQ y.1,y.2) (by simp[hy1]);have hky:ks=y.1:=by
       obtain⟨hlt,O,_⟩:=x8b.1 f;rw[x3e hlt]at hy1;cases hy1;simpa using O
      have h3':es.toList[j]?=some e:=by simpa using B
      have hjlt:j<es.size:=(x4t.1 B).1;simp only[h3',x7t,x5b,x6i]at u;have hek:e.key=JQ ks:=by rw[h4,hky]
      refine⟨es.modify j fun e=>{e with key:=JQ ks,val:=vv},clock,?_,GE hbo j fun _=>rfl,?_,fun m z hz=>?_⟩
      .have U:(Instr.findKey kt (JQ ks) es.toList).run P w=.ok (some (j,e.val)) w:=by
        unfold Instr.findKey;rw[Sem.run_bind,run_underlying G,Result.andThen_ok,u];rfl
       have hkt:(Instr.keyThatStays (((es[j]?).map (·.key)).getD (JQ ks)) (JQ ks)).run P w=.ok (JQ ks) w:=by
        rw[B];simp only[x7t,x5b,hek];unfold Instr.keyThatStays;have:Instr.sameBits 10000 (JQ ks) (JQ ks)=true:=by
         unfold JQ;show((⟨ks.toArray⟩:ByteArray)==⟨ks.toArray⟩)=true;rw[MA];simp
        rw[if_pos this];rfl
       unfold Instr.mapUpdate;rw[Sem.run_bind,run_underlying hu,Result.andThen_ok];simp only[Sem.run_bind,ZB hh,Result.andThen_ok,Sem.run_pure,JJ G,U,hkt,JK _ hh]
      .rw [hy2];simpa using M
      .rw [hy2,x5d]at hz;by_cases I:m=j
       .subst I;rw[x5f (by simp at M⊢;omega)]at hz;cases hz;exact⟨{e with key:=JQ ks,val:=vv},by simp[x7l,B],by rw[hky],hvr⟩
       .rw [x5p (x7d I)]at hz;obtain⟨e',O,h7⟩:=h2 m z hz;exact⟨e',by rw[x7l,if_neg (x7d I)];exact O,h7⟩
   have hrun':(execOp a.eval o).run P w=.ok .skip {w with heap:=w.heap.setIfInBounds A.blk (.map es' q)}:=by
    simp only[execOp,hop,hxe,hkv,hve,Sem.run_bind,hrun,Result.andThen_ok];rfl
   obtain⟨H',hK,B,h4,h5⟩:=VO g.heap.nodup h;have hot:∀b,b≠A.blk->({w with heap:=w.heap.setIfInBounds A.blk (.map es' q)}:World).heap[b]?=w.heap[b]?:=fun b R=>x7n (x7d R);have V:HRel σ β H' {w with heap:=w.heap.setIfInBounds A.blk (.map es' q)}:=by
    refine⟨fun b c R=>?_,fun j c f=>?_,by rw[B];exact g.heap.nodup,fun j f i' Y b R=>?_,fun j f j' hj'=>g.heap.inj j (B▸f) j' (B▸hj')⟩
    .obtain ⟨e,fr,O⟩:=g.heap.mem b c R;exact⟨e,fr,(hot b fun he=>by rw[he,hh]at O;cases O).trans O⟩
    .by_cases Z:j=k
     .subst Z;rw[h5 c f];exact⟨A,es',q,C,by simp[hlt],hbo',by simpa using hsz,hent⟩
     .have I:=h4 j c f Z;exact(g.heap.chunks j c I).mono (Mem.le_refl σ) fun i' Y b R=>hot b fun he=>Z (g.heap.inj j (x4y.2 ⟨_,I,rfl⟩) k F i' A Y C b R (.inl he.symm))
    .have:=g.heap.apart j (B▸f) i' Y b R;exact⟨this.1,by simpa using this.2⟩
   refine PV hrun' ⟨σ,β,⟨s.sl,H'⟩,hK,⟨?_,?_,?_,V⟩,Mem.le_refl σ,⟨rfl,rfl,rfl,x4m _,by simp,fun b _ hn=>hot b fun he=>hn ⟨k,F,A,C,.inl he.symm⟩⟩,fun b h0 M=>absurd h0 M,fun b ⟨j,f,r⟩=>.inl ⟨j,B▸f,r⟩,fun _ _ _=>rfl⟩
   .rw [D];exact g.size
   .rw [D];exact g.defers
   .rw [D];exact g.E
end
def ZL(i:Str)(h:List Str):List Arg->List Str->Bool
 |[],_=>true
 |a::r,seen=>bif a.ref then bif (seen.any fun s=>a.name==s)||((a.name==i)||h.any fun s=>a.name==s)then false else ZL i h r (seen++[a.name])else ZL i h r seen
def B8(t:S)(h:List Str)(ha:t.args.length<=21000):aP 103 [.agg t.cells,eStrs h] (.bool (ZL t.name h t.args [])):=by
 refine sC Jh func103 ?_;conv=>whnf
 repeat' ((refine iM fun _=>?_)<;>conv=>whnf)
 have u:(t.args.map fun a=>AV.agg a.cells).length=t.args.length:=x3a _;refine lJ (fun i:Nat×List Str=>⟨[(1,.p (eStrs h)),(2,.p (.ip t.cells)),(5,.hd 0 0 i.2.length),(9,.p (.sl (t.args.map fun a=>.agg a.cells))),(10,.p (.int .i64 (t.args.map fun a=>AV.agg a.cells).length)),(11,.j i.1)],[(0,.own 9 1 (i.2.map .str))]⟩) (fun i=>i.1<=t.args.length/\i.2.length<=i.1/\ZL t.name h (t.args.drop i.1) i.2=ZL t.name h t.args []) (fun i=>t.args.length-i.1) (0,[]) (lM [(0,.own 9 1 [])]) ⟨x4j _,x4m _,rfl⟩ ?_;rintro⟨j,m⟩ ⟨q,r,n⟩;simp only at q r n⊢;rcases x4f j t.args.length with o|o
 .rw [x5j o,ZL]at n;conv=>whnf
  repeat' ((first|refine cP (QZ _ _) ?_|(refine gX ?_;intros)|(refine QC (QZ m (t.args[j]'o).name) (.cons (.hd rfl (by simp)) (.cons (.p (Sub.refl _)) .nil)) (by rintro _ rfl;rfl) ?_;rintro _ rfl)|refine pS ?_|((first|apply bD|apply bN|apply bB)<;>intro _<;>try omega))<;>conv=>whnf)
  all_goals first
   |exact RetK.ff (by rw[<-n];simp[*])
   |exact⟨(j+1,m++[t.args[j].name]),⟨by simp only;omega,by simp;omega,by simp only;rw[<-n];simp[*]⟩,by simp only;omega,Le.of_eq (by simp only[x3o,x4d];rfl)⟩
   |exact nX (j+1,m) ⟨by simp only;omega,by simp only;omega,by simp only;rw[<-n];simp[*]⟩
 .rw [x4l o,ZL]at n;conv=>whnf
  repeat' (apply bD<;>intro _<;>first|omega|conv=>whnf)
  exact RetK.tt n.symm
def FN(p:Pg):Int×Int:=
 if(UT p).1≠0 then(1,0)else match(VH p).find? fun t=>decide (t.kind=4) && !ZL t.name (KS p t.C) t.args []with
  |some t=>(8,t.id)
  |none=>(0,0)
def IZ(h:(UT p).1=0):(QO p).1=0/\(VH p).find? (fun t=>decide (t.kind=4) && !FC p t)=none:=by
 unfold UT at h;split at h
 .cases h
 .rename_i i;refine⟨by omega,?_⟩;split at h
  .cases h
  .assumption
def q1j{l:List (Str×AV)}{k:Str}{v:AV}{x:Str×AV}(h:x∈PP l k v):x∈l\/x=(k,v):=by
 induction l with
 |nil=>rw[PP]at h;exact .inr (by simpa using h)
 | cons y r m=>
   rw[PP]at h;split at h
   .rename_i i;rcases x4v.1 h with h|h
    .exact .inr (by rw[h,i])
    .exact .inl (x4x _ h)
   .rcases x4v.1 h with h|h
    .exact .inl (by rw[h];exact x4z)
    .exact (m h).imp (x4x _) id
def q1y{l:List (Str×AV)}{k:Str}{v:AV}(h:s=k\/∃x∈l,x.1=s):∃x∈PP l k v,x.1=s:=by
 induction l with
 | nil=>
   rcases h with rfl|⟨x,i,_⟩
   .exact ⟨(s,v),by rw[PP];exact x4z,rfl⟩
   .cases i
 | cons y r o=>
   rw[PP];split
   .rename_i q;rcases h with rfl|⟨x,i,rfl⟩
    .exact ⟨(y.1,v),x4z,q.symm⟩
    .rcases x4v.1 i with rfl|i
     .exact ⟨(x.1,v),x4z,rfl⟩
     .exact ⟨x,x4x _ i,rfl⟩
   .rcases h with rfl|⟨x,i,rfl⟩
    .obtain ⟨z,n,m⟩:=o (.inl rfl);exact⟨z,x4x _ n,m⟩
    .rcases x4v.1 i with rfl|i
     .exact ⟨x,x4z,rfl⟩
     .obtain ⟨z,n,m⟩:=o (.inr ⟨x,i,rfl⟩);exact⟨z,x4x _ n,m⟩
def q3a{l:List (Str×AV)}{g:Str->AV}(h:∀x∈l,x.2=g x.1){k:Str}(o:∃x∈l,x.1=k):M4 l k=some (g k):=by
 unfold M4;cases i:l.find? fun x=>decide (k=x.1)with
 | none=>
   obtain⟨x,q,rfl⟩:=o;have:=x9b.1 i x q;simp at this
 | some x=>
   have n:=x8h i;have m:=x9j i;simp at m;simp[h x n,m]
def Ml(p:Pg)(H:Fit p):aP 62 [.agg p.cells] (Kf (FN p).1 (FN p).2):=by
 refine sC Gc func62 ?_;conv=>whnf
 repeat' ((first|refine cP (Vc p H) ?_|refine x4e rfl ?_|(apply bE<;>intro _<;>try omega))<;>conv=>whnf)
 rotate_left 1
 .have e:FN p=(1,0):=by unfold FN;rw[if_pos (by assumption)]
  exact QR (by rw[e]) (by rw[e])
 have F:(UT p).1=0:=by assumption
 obtain⟨Q,_⟩:=IZ F;obtain⟨u,hb,hns⟩:=KG Q;obtain⟨hg,hpl,Z⟩:=VD u;have hl:(p.A.map fun f=>AV.agg f.cells).length=p.A.length:=x3a _;repeat' ((first|(refine iM fun _=>?_)|refine OpK.makeMap rfl ?_)<;>conv=>whnf)
 refine lI (fun i:Nat×List (Str×AV)=>⟨[(1,.p (.ip p.cells)),(2,.ptr 1 0),(3,.ext 0 .map),(15,.p (.sl (p.A.map fun f=>.agg f.cells))),(16,.p (.int .i64 (p.A.map fun f=>AV.agg f.cells).length)),(17,.j i.1)],[(0,.ext (Iy i.2)),(1,.obj 80 [.p (.int .i64 0),.j 0])]⟩) (fun i=>i.1<=p.A.length/\(∀x∈i.2,x.2=eStrs (KS p x.1))/\∀(m:Nat)(u:m<p.A.length),m<i.1->∃x∈i.2,x.1=p.A[m].name) (fun i=>p.A.length-i.1) (0,[]) ⟨x4j _,by simp,by intro m u h;omega⟩ ?_;rintro⟨j,l⟩ ⟨Y,B,D⟩;simp only at Y B D⊢;rcases x4f j p.A.length with U|U
 .have L:p.A[j].name∈QK p:=x4y.2 ⟨_,x4h U,rfl⟩;conv=>whnf
  repeat' ((first|refine cP (D8 p H Q _ L) ?_|refine dA ?_|(refine gX ?_;intros)|refine OpK.mapUpdate XM rfl rfl rfl rfl rfl rfl rfl rfl rfl rfl ?_|(apply bD<;>intro _<;>try omega))<;>conv=>whnf)
  refine nX (j+1,PP l p.A[j].name (eStrs (KS p p.A[j].name))) ⟨by simp only;omega,fun x R=>?_,fun m u h=>?_⟩
  .rcases q1j R with R|rfl
   .exact B x R
   .rfl
  .refine q1y ?_;rcases x4f m j with c|c
   .exact .inr (D m u c)
   .obtain rfl:m=j:=by simp only at h;omega
    exact .inl rfl
 have J:∀n∈QK p,M4 l n=some (eStrs (KS p n)):=fun n L=>q3a (g:=fun n=>eStrs (KS p n)) B (by
  obtain⟨f,r,rfl⟩:=x4y.1 L;obtain⟨m,u,rfl⟩:=List.getElem_of_mem r;exact D m u (by omega))
 clear B D;conv=>whnf
 repeat' ((first|(refine iM fun _=>?_)|refine cP (BN p (by omega) (by omega)) ?_ (ha:=.cons (Sub.refl _) .nil)|(apply bD<;>intro _<;>try omega))<;>conv=>whnf)
 have F:FN p=match(VH p).find? fun t=>decide (t.kind=4) && !ZL t.name (KS p t.C) t.args []with
  |some t=>(8,t.id)
  |none=>(0,0):=by unfold FN;rw[if_neg (by omega)]
 have hil:=WZ (sheetOf p).l;have hib:(sheetOf p).l.length<=200:=by have:=(QU p).2.2.2.1;omega
 have z:=BB (q:=fun t=>decide (t.kind=4) && !ZL t.name (KS p t.C) t.args []) (sheetOf p).l;rw[YY]at z;have G:FN p=match((sheetOf p).l.find? fun o=>decide (o.s.kind=4) && !ZL o.s.name (KS p o.s.C) o.s.args []).map (fun o=>o.s.id)with
  |some a=>(8,a)
  |none=>(0,0):=by
  rw[F,z];cases(VH p).find? fun t=>decide (t.kind=4) && !ZL t.name (KS p t.C) t.args []<;>rfl
 rw[G];refine lI (fun k:Nat=>⟨[(2,.ptr 1 0),(3,.ext 0 .map),(33,.p (ZE (sheetOf p).l)),(34,.p (.int .i64 ((sheetOf p).l.map fun i=>AV.agg i.cells).length)),(35,.j k)],[(0,.ext (Iy l)),(1,.obj 80 [.p (.int .i64 0),.j 0])]⟩) (fun k=>k<=(sheetOf p).l.length/\((sheetOf p).l.drop k).find? (fun o=>decide (o.s.kind=4) && !ZL o.s.name (KS p o.s.C) o.s.args [])=(sheetOf p).l.find? fun o=>decide (o.s.kind=4) && !ZL o.s.name (KS p o.s.C) o.s.args []) (fun k=>(sheetOf p).l.length-k) 0 ⟨x4j _,rfl⟩ ?_;rintro k ⟨h5,E⟩;rcases x4f k (sheetOf p).l.length with y|y;rotate_left 1
 .rw [<-E,BD y];conv=>whnf
  repeat' ((first|refine x4e rfl ?_|(apply bD<;>intro _<;>try omega))<;>conv=>whnf)
  exact QR rfl rfl
 have hw:=Xe H y;have M:(sheetOf p).l[k].s.args.length<=21000:=by
  have:=C4 (sheetOf p).l[k].s;have:=BW (sheetOf p).l[k].s.args;omega
 have O:(sheetOf p).l[k].s.kind=4->(sheetOf p).l[k].s.C∈QK p:=fun K=>by
  have d:(sheetOf p).l[k].s∈VH p:=by
   rw[<-YY];exact x4y.2 ⟨_,x4h y,rfl⟩
  unfold VH at d;obtain⟨f,r,I⟩:=x4a.1 d;exact(Xs Q r I K).1
 conv=>whnf
 repeat' ((first|refine cP (B8 _ _ M) ?_|(refine gX ?_;intros)|refine OpK.lookup XM rfl rfl rfl rfl rfl rfl rfl rfl (J _ (O (by omega))) ?_|((first|apply bD|apply bN)<;>intro _<;>try omega))<;>conv=>whnf)
 all_goals first
  | (have V:=BP (p:=fun o:Item=>decide (o.s.kind=4) && !ZL o.s.name (KS p o.s.C) o.s.args []) y (by simp[*])
     rw[<-E,V];exact QR rfl rfl)
  |exact nX (k+1) ⟨by omega,by rw[<-E,Xz (p:=fun o:Item=>decide (o.s.kind=4) && !ZL o.s.name (KS p o.s.C) o.s.args []) y (by simp[*])]⟩
def q6w(p:Pg):Int×Int:=
 if BC p=false then(1,0)else
 if(QO p).1≠0 then QO p else
 if(UT p).1≠0 then UT p else
 if(Ww p).1≠0 then Ww p else FN p
def CV(p:Pg)(h:Fit p):aP 37 [.agg p.cells] (Kf (q6w p).1 (q6w p).2):=by
 refine sC M8 func37 ?_;conv=>whnf
 repeat' ((first|refine cP (TX _) ?_|refine cP (JC p h) ?_|refine cP (Vc p h) ?_|refine cP (Sg p h) ?_|refine cP (Ml p h) ?_|refine x4e rfl ?_|((first|apply bD|apply bN)<;>intro _<;>try omega))<;>conv=>whnf)
 all_goals exact QR (by unfold q6w;simp[*]) (by unfold q6w;simp[*])
def QL(p:Pg):Bool:=decide ((q6w p).1=0)
def Bj(p:Pg)(h:Fit p):aP 9 [.agg p.cells] (.bool (QL p)):=by
 refine sC M9 func9 ?_;conv=>whnf
 repeat' (refine cP (CV p h) ?_;conv=>whnf)
 exact RetK.bool rfl
def XK(x:Int):Int:=if x = -1 then 9223372036854775807 else x
def Bp(x:Int):aP 134 [.int .i64 x] (.int .i64 (XK x)):=by
 refine sC Mq func134 ?_;conv=>whnf
 repeat' (apply bD<;>intro _<;>first|omega|conv=>whnf)
 all_goals exact RetK.int (by unfold XK;simp[*])
def Jr(x:Int):aP 172 [.int .i64 x] (.bool false):=by
 refine sC Zi func172 ?_;conv=>whnf
 skip
 exact RetK.bool (by simp)
def cmpI(x y:Int):Int:=if x<y then -1 else if y<x then 1 else 0
def VF(x y:Int):aP 122 [.int .i64 x,.int .i64 y] (.int .i64 (cmpI x y)):=by
 refine sC MZ func122 ?_;conv=>whnf
 repeat' ((first|refine cP (Jr _) ?_|((first|apply bD|apply bB)<;>intro _<;>try omega))<;>conv=>whnf)
 all_goals first
  |contradiction
  |exact RetK.int (by unfold cmpI;simp[*])
  |exact RetK.int (by unfold cmpI;rw[if_neg (by assumption),if_pos (by omega)])
  |exact RetK.int (by unfold cmpI;rw[if_neg (by assumption),if_neg (by omega)])
def orI:List Int->Int
 |[]=>0
 |a::r=>if a=0 then orI r else a
def HZ(l:List Int):aP 121 [XQ l] (.int .i64 (orI l)):=by
 refine sC Ge func121 ?_;conv=>whnf
 repeat' ((refine iM fun _=>?_)<;>conv=>whnf)
 have n:(l.map (AV.int .i64)).length=l.length:=x3a _;refine lI (fun j:Nat=>⟨[(3,.j 0),(6,.p (XQ l)),(7,.p (.int .i64 (l.map (AV.int .i64)).length)),(8,.j j)],[]⟩) (fun j=>j<=l.length/\orI (l.drop j)=orI l) (fun j=>l.length-j) 0 ⟨x4j _,rfl⟩ ?_;rintro j ⟨m,h⟩;rcases x4f j l.length with i|i
 .rw [x5j i,orI]at h;conv=>whnf
  repeat' ((first|(refine gX ?_;intros)|((first|apply bD|apply bE)<;>intro _<;>try omega))<;>conv=>whnf)
  all_goals first
   |exact RetK.int (by rw[<-h,if_neg (by assumption)])
   |exact nX (j+1) ⟨by omega,by rw[<-h,if_pos (by assumption)]⟩
   |exact nX (j+1) ⟨by omega,by rw[<-h,if_pos (by simp_all)]⟩
 .rw [x4l i,orI]at h;conv=>whnf
  repeat' (apply bD<;>intro _<;>first|omega|conv=>whnf)
  exact RetK.int h
def Sj(l:List S)(o:Int):Int:=match l with
 |[]=>o
 |t::_=>t.id
def CO(l:List S)(o:Int):aP 241 [.sl (l.map fun t=>.agg t.cells),.int .i64 o] (.int .i64 (Sj l o)):=by
 refine sC Mz func241 ?_;conv=>whnf
 repeat' ((first|(refine iM fun _=>?_)|(apply bD<;>intro _<;>try omega))<;>conv=>whnf)
 .cases l with
  |nil=>simp at*
  | cons t r=>
    refine IdxK.at (k:=0) rfl rfl rfl ?_;exact RetK.int rfl
 .cases l with
  |nil=>exact RetK.int rfl
  |cons t r=>simp at*
def ZH(a b:Step):Bool:=decide (a.src=b.src)&&decide (a.dst=b.dst)
def Uz(a b:Step):aP 229 [.agg a.cells,.agg b.cells] (.bool (ZH a b)):=by
 refine sC H3 func229 ?_;conv=>whnf
 repeat' (apply bD<;>intro _<;>first|omega|conv=>whnf)
 all_goals first
  |exact RetK.bool (show(a.dst==b.dst)=ZH a b by unfold ZH;simp[*];rfl)
  |exact RetK.ff (by unfold ZH;simp[*])
def R0(a b:Step):Int:=orI [cmpI (XK a.src) (XK b.src),cmpI (XK a.dst) (XK b.dst),cmpI a.kind b.kind]
def Mo(a b:Step):aP 227 [.agg a.cells,.agg b.cells] (.int .i64 (R0 a b)):=by
 refine sC Gi func227 ?_;conv=>whnf
 repeat' ((first|refine cP (Bp _) ?_|refine cP (VF _ _) ?_|refine cP (HZ [cmpI (XK a.src) (XK b.src),cmpI (XK a.dst) (XK b.dst),cmpI a.kind b.kind]) ?_|refine dA ?_|refine x4e rfl ?_|refine aD ?_|refine BsK.pureL rfl rfl ?_)<;>conv=>whnf)
 exact RetK.int rfl
end Go.Ab
