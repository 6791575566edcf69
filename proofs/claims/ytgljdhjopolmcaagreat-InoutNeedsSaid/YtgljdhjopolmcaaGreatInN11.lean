/- The library's contracts at this seat's program, in plain words (printed by the kit's lay-plain.mjs). Conditions: none. -/
import Derived.Shelf.Sort.Plain
import Derived.Shelf.Slices.In.SortNone
import Derived.Shelf.Slices.CompactS
import Derived.Ground.Names2Prog
import Derived.Shelf.Slices.SearchI
import Derived.Shelf.Slices.Empties
import Derived.Shelf.Spec.SlicesInsert
import Derived.Shelf.Spec.SlicesInsertGrow
import Derived.Test.YtgljdhjopolmcaaGreatProg
import Derived.Test.YtgljdhjopolmcaaGreatInN9
set_option linter.all false
set_option maxRecDepth 100000
set_option maxHeartbeats 16000000
open List (filter_cons findIdx?_cons)
namespace Go.Proofs
open Go.Shelf
def Tryz.lays190_ren:Go.Shelf.Ren:=⟨fun|190=>135|125=>162|258=>195|128=>221|129=>222|302=>252|303=>253|304=>254|305=>255|306=>256|307=>257|308=>211|309=>258|310=>259|333=>289|329=>274|330=>275|334=>290|335=>291|336=>164|344=>317|n=>n,fun|31=>22|9=>9|3=>3|46=>227|0=>0|51=>267|53=>269|4=>4|183=>261|182=>260|131=>178|5=>5|218=>296|222=>300|228=>318|229=>30|n=>n,fun|n=>n⟩
theorem kT10{α:Type}{x:Option α}{a b:α}(h:x=some a)(e:a=b:=by kernel_rfl):x=some b:=e▸h
def Uh:Go.Proofs.Lays.n190 Tryz.prog Tryz.lays190_ren:={
 mixed:=by kernel_rfl
 f125:=kT10 Tryz.func162
 f128:=kT10 Tryz.func221
 f129:=kT10 Tryz.func222
 f190:=kT10 Tryz.func135
 f258:=kT10 Tryz.func195
 f302:=kT10 Tryz.func252
 f303:=kT10 Tryz.func253
 f304:=kT10 Tryz.func254
 f305:=kT10 Tryz.func255
 f306:=kT10 Tryz.func256
 f307:=kT10 Tryz.func257
 f308:=kT10 Tryz.func211
 f309:=kT10 Tryz.func258
 f310:=kT10 Tryz.func259
 f329:=kT10 Tryz.func274
 f330:=kT10 Tryz.func275
 f333:=kT10 Tryz.func289
 f334:=kT10 Tryz.func290
 f335:=kT10 Tryz.func291
 f336:=kT10 Tryz.func164
 f344:=kT10 Tryz.func317
 t0:=Tryz.underlying0
 a0:=Tryz.isAgg0
 z0:=Tryz.sizeOf0
 v0:=Tryz.zeroValue0
 t3:=Tryz.underlying3
 a3:=Tryz.isAgg3
 z3:=Tryz.sizeOf3
 v3:=Tryz.zeroValue3
 t4:=Tryz.underlying4
 a4:=Tryz.isAgg4
 z4:=Tryz.sizeOf4
 v4:=Tryz.zeroValue4
 t5:=Tryz.underlying5
 a5:=Tryz.isAgg5
 z5:=Tryz.sizeOf5
 v5:=Tryz.zeroValue5
 t9:=Tryz.underlying9
 a9:=Tryz.isAgg9
 z9:=Tryz.sizeOf9
 v9:=Tryz.zeroValue9
 t31:=Tryz.underlying22
 a31:=Tryz.isAgg22
 z31:=Tryz.sizeOf22
 v31:=Tryz.zeroValue22
 t46:=Tryz.underlying227
 a46:=Tryz.isAgg227
 z46:=Tryz.sizeOf227
 v46:=Tryz.zeroValue227
 t51:=Tryz.underlying267
 a51:=Tryz.isAgg267
 z51:=Tryz.sizeOf267
 v51:=Tryz.zeroValue267
 t53:=Tryz.underlying269
 a53:=Tryz.isAgg269
 z53:=Tryz.sizeOf269
 v53:=Tryz.zeroValue269
 t131:=Tryz.underlying178
 a131:=Tryz.isAgg178
 z131:=Tryz.sizeOf178
 v131:=Tryz.zeroValue178
 t182:=Tryz.underlying260
 a182:=Tryz.isAgg260
 z182:=Tryz.sizeOf260
 v182:=Tryz.zeroValue260
 t183:=Tryz.underlying261
 a183:=Tryz.isAgg261
 z183:=Tryz.sizeOf261
 v183:=Tryz.zeroValue261
 t218:=Tryz.underlying296
 a218:=Tryz.isAgg296
 z218:=Tryz.sizeOf296
 v218:=Tryz.zeroValue296
 t222:=Tryz.underlying300
 a222:=Tryz.isAgg300
 z222:=Tryz.sizeOf300
 v222:=Tryz.zeroValue300
 t228:=Tryz.underlying318
 a228:=Tryz.isAgg318
 z228:=Tryz.sizeOf318
 v228:=Tryz.zeroValue318
 t229:=Tryz.underlying30
 a229:=Tryz.isAgg30
 z229:=Tryz.sizeOf30
 v229:=Tryz.zeroValue30}
def Tryz.lays194_ren:Go.Shelf.Ren:=⟨fun|194=>136|n=>n,fun|31=>22|9=>9|3=>3|4=>4|0=>0|n=>n,fun|n=>n⟩
def Uf:Go.Proofs.Lays.n194 Tryz.prog Tryz.lays194_ren:={
 mixed:=by kernel_rfl
 f194:=kT10 Tryz.func136
 t0:=Tryz.underlying0
 a0:=Tryz.isAgg0
 z0:=Tryz.sizeOf0
 v0:=Tryz.zeroValue0
 t3:=Tryz.underlying3
 a3:=Tryz.isAgg3
 z3:=Tryz.sizeOf3
 v3:=Tryz.zeroValue3
 t4:=Tryz.underlying4
 a4:=Tryz.isAgg4
 z4:=Tryz.sizeOf4
 v4:=Tryz.zeroValue4
 t9:=Tryz.underlying9
 a9:=Tryz.isAgg9
 z9:=Tryz.sizeOf9
 v9:=Tryz.zeroValue9
 t31:=Tryz.underlying22
 a31:=Tryz.isAgg22
 z31:=Tryz.sizeOf22
 v31:=Tryz.zeroValue22}
def Tryz.laysB_ren:Go.Shelf.Ren:=⟨fun|25=>287|31=>313|32=>314|37=>163|n=>n,fun|22=>54|3=>3|4=>4|40=>227|0=>0|n=>n,fun|n=>n⟩
def Hc:Go.Proofs.Lays2.n25 Tryz.prog Tryz.laysB_ren:={
 mixed:=by kernel_rfl
 f25:=kT10 Tryz.func287
 f31:=kT10 Tryz.func313
 f32:=kT10 Tryz.func314
 f37:=kT10 Tryz.func163
 t0:=Tryz.underlying0
 a0:=Tryz.isAgg0
 z0:=Tryz.sizeOf0
 v0:=Tryz.zeroValue0
 t3:=Tryz.underlying3
 a3:=Tryz.isAgg3
 z3:=Tryz.sizeOf3
 v3:=Tryz.zeroValue3
 t4:=Tryz.underlying4
 a4:=Tryz.isAgg4
 z4:=Tryz.sizeOf4
 v4:=Tryz.zeroValue4
 t22:=Tryz.underlying54
 a22:=Tryz.isAgg54
 z22:=Tryz.sizeOf54
 v22:=Tryz.zeroValue54
 t40:=Tryz.underlying227
 a40:=Tryz.isAgg227
 z40:=Tryz.sizeOf227
 v40:=Tryz.zeroValue227}
def Tryz.laysI_ren:Go.Shelf.Ren:=⟨fun|21=>288|27=>315|28=>316|35=>324|39=>326|n=>n,fun|22=>54|3=>3|4=>4|0=>0|n=>n,fun|n=>n⟩
def HH:Go.Proofs.Lays2.n21 Tryz.prog Tryz.laysI_ren:={
 mixed:=by kernel_rfl
 f21:=kT10 Tryz.func288
 f27:=kT10 Tryz.func315
 f28:=kT10 Tryz.func316
 f35:=kT10 Tryz.func324
 f39:=kT10 Tryz.func326
 t0:=Tryz.underlying0
 a0:=Tryz.isAgg0
 z0:=Tryz.sizeOf0
 v0:=Tryz.zeroValue0
 t3:=Tryz.underlying3
 a3:=Tryz.isAgg3
 z3:=Tryz.sizeOf3
 v3:=Tryz.zeroValue3
 t4:=Tryz.underlying4
 a4:=Tryz.isAgg4
 z4:=Tryz.sizeOf4
 v4:=Tryz.zeroValue4
 t22:=Tryz.underlying54
 a22:=Tryz.isAgg54
 z22:=Tryz.sizeOf54
 v22:=Tryz.zeroValue54
 i3:=by kernel_rfl}
end Go.Proofs
namespace Go.Ab
open Go.Proofs.Tryz
open Go.Proofs Go.Sort
variable {α:Type}{b clock j k:Nat}{e:TypeId}{es:Array MapEntry}{l:List Str}{p:Pg}{s:Str}{v:Value}{vs:Array Value}{w:World}{β:Lab}{σ:Mem}
def Pm{c c':Chunk}{w':World}{i:BInfo}(h:HRel σ β [(k,c)] w)(y:β k=some i)(q:Frm (fun b=>b=i.blk) w w')(u:c'.holds σ β w' k):HRel σ β [(k,c')] w'/\Later σ β [(k,c)] w σ β [(k,c')] w':=by
 have r:=h.apart k (by simp) i y;refine⟨⟨fun b cs m=>?_,fun j d n=>?_,by simp,fun j n i' o b m=>?_,fun j n B t _ _ _ _ _ _ _=>?_⟩,Mem.le_refl σ,⟨q.os,q.tape,q.output,q.drawn,q.size,fun b m A=>q.block b m fun x=>A ⟨k,by simp,i,y,.inl x.symm⟩⟩,
  fun b f g=>absurd f g,fun b ⟨j,n,i',o,m⟩=>.inl ⟨j,by simpa using n,i',o,m⟩,fun _ _ _=>rfl⟩
 .obtain ⟨e,a,z⟩:=h.mem b cs m;exact⟨e,a,(q.block b (x9r.1 z).1 fun x=>by rw[x,(r _ i.has_blk).1]at m;cases m).trans z⟩
 .simp at n;obtain⟨rfl,rfl⟩:=n;exact u
 .simp at n;subst n;rw[y]at o;cases o;exact⟨(r b m).1,z2j (r b m).2 q.size⟩
 .simp at n t;rw[n,t]
def YH(h:w.heap[b]?=some (.cells vs e (0,0)))(o:Nat):w.frozen? ⟨b,o,none⟩=false:=by
 simp[World.frozen?,h]
def DQ(h:w.heap[b]?=some (.cells vs e (0,0)))(o:Nat):w.cell? ⟨b,o,none⟩=vs[o]?:=by
 simp[World.cell?,h]
def Uy[Inhabited α]{enc:α->Value}{n:Nat}{d:Array α}{os:Array Obj}(h:w.heap[b]?=some (.cells vs e (0,0)))(m:b<w.heap.size):
  Frm (fun x=>x=b) w (grow (putRow enc (Sort.ahead w n) b 0 d) os)/\(grow (putRow enc (Sort.ahead w n) b 0 d) os).heap[b]?=some (.cells (putCells enc 0 d vs) e (0,0)):=by
 have i:(grow (putRow enc (Sort.ahead w n) b 0 d) os).heap=w.heap.modify b (onCells (putCells enc 0 d))++os:=rfl;refine⟨⟨rfl,rfl,rfl,Nat.le_add_right _ _,?_,fun k o q=>?_⟩,?_⟩
 .rw [i];simp
 .rw [i,z2i (by simpa using o),z3f,if_neg (z3c q)]
 .rw [i,z2i (by simpa using m),z3f,if_pos rfl,h];rfl
def NJ[Inhabited α]{enc:α->Value}{d:Array α}(m:d.size<=vs.size)(i:k<d.size):(putCells enc 0 d vs)[k]?=some (enc d[k]):=by
 unfold putCells;have h:k<vs.size:=by omega
 simp[h,i]
def Cp(h:∀(m:Nat)(x:AV),(l.map AV.str)[m]?=some x->x.cells.length=1/\∀(j:Nat)(c:AV),x.cells[j]?=some c->∃u:Value,vs[m*1+j]?=some u/\Rep σ c u)(q:j<l.length):
  vs[j]?=some (encStr l[j])/\l[j].length<=maxLen:=by
 obtain⟨u,i,n⟩:=(h j (.str l[j]) (by simp[q])).2 0 (.str l[j]) rfl;cases n with
 |str _ o=>exact⟨by simpa using i,o⟩
def Cn(h:∀j (n:j<l.length),vs[j]?=some (encStr l[j]))(t:∀s∈l,s.length<=maxLen):∀(m:Nat)(x:AV),(l.map AV.str)[m]?=some x->x.cells.length=1/\∀(j:Nat)(c:AV),x.cells[j]?=some c->∃u:Value,vs[m*1+j]?=some u/\Rep σ c u:=by
 intro m x i;rw[x9x]at i;cases q:l[m]?with
 |none=>rw[q]at i;cases i
 | some s=>
   rw[q]at i;cases i;obtain⟨r,rfl⟩:=x8t.1 q;refine⟨rfl,fun j c n=>?_⟩;have o:j=0:=by
    have:=(x8t.1 n).1;simpa[AV.cells]using this
   subst o;simp only[AV.cells,z3r,z2w]at n;subst n;exact⟨_,by simpa using h m r,.str _ (t _ (x9w r))⟩
def x2w{m:Array Value}{l:LV}(h:m.size=[l].length):∃v,m=#[v]:=⟨m[0]'(by simp at h;omega),by apply Array.ext;simpa using h;intro i o n;simp at n;subst n;rfl⟩
def Lu{n:Nat}{i:BInfo}(h:RepL σ β (.hd k 0 n) v)(r:β k=some i):v=.slice (some ⟨i.blk,0,none⟩) n i.cap:=by
 rcases h.hdI with⟨m,_⟩|⟨i',o,m,u,q,t⟩
 .rw [r]at m;cases m
 .rw [r]at m;cases m;rcases q with q|q
  .rw [t,q];simp
  .omega
def Sl{n:Nat}(h:RepL σ β (.hd k 0 n) v)(m:β k=none):v=.slice none 0 0/\n=0:=by
 rcases h.hdI with⟨_,_,q,r⟩|⟨i',o,i,_⟩
 .exact ⟨r,q⟩
 .rw [m]at i;cases i
def YR(l:List Str):List Str:=l.mergeSort fun x y=>decide (x<=y)
def DT(l:List Str)(F:l.length<=1000000000):
  SpecH prog 135 [.hd 1000 0 l.length] [(1000,.own 9 1 (l.map .str))] (fun r H=>r=.p (.tup [])/\H=[(1000,.own 9 1 ((YR l).map .str))]):=by
 refine⟨call135,fun σ β w I R q hH=>?_⟩;obtain⟨v,rfl⟩:=x2w R;have q:=q 0 _ rfl;simp only[z3j,x9f,z1p,Array.getD_eq_getD_getElem?]at q;have q:RepL σ β (.hd 1000 0 l.length) v:=by simpa using q
 have c:=hH.chunks 1000 _ x8l;have h:(YR l).length=l.length:=by unfold YR;simp
 rcases c with⟨a,f⟩|⟨i,vs,y,B,g,D,E,J,K⟩
 .have A:l=[]:=by simpa using f
  subst A;obtain⟨rfl,_⟩:=Sl q a;have t:=Any.slices_Sort_string_none Uh none 0 w;change Calls prog 135 _ _ _ at t;refine t.mono ?_;rintro e w' ⟨rfl,rfl⟩;exact⟨.p (.tup []),.tuple #[],σ,β,_,rfl,⟨rfl,rfl⟩,.p (.tup [] #[] (fun _=>undef) rfl (by simp) (by simp)),by simpa[YR]using hH,by simpa[YR]using Later.refl _ _ _ _⟩
 .have C:=Lu q y;subst C;have x:=(hH.apart 1000 (by simp) i y i.blk i.has_blk).2;have Q:l.length<=vs.size:=by rw[D,Nat.mul_one];simpa using E
  have m:=fun j o=>Cp (σ:=σ) (l:=l) K (j:=j) o;have t:=Any.slices_Sort_string Uh i.blk 0 i.cap l w (fun j o=>by
   have u:j<l.length:=by simpa using o
   refine⟨?_,YH g _⟩;rw[DQ g,z0t,(m j u).1];simp[u]) x (by omega)
  change Calls prog 135 _ _ _ at t;refine t.mono ?_;rintro e w' ⟨rfl,n,os,rfl⟩;obtain⟨O,M⟩:=Uy (enc:=encStr) (n:=n) (os:=os) (d:=(YR l).toArray) g x;obtain⟨z,L⟩:=Pm (c':=.own 9 1 ((YR l).map .str)) hH y O (.inr ⟨i,_,y,B,M,by simpa[putCells]using D,by simpa[h]using E,J,Cn (fun j o=>by
   have:=NJ (enc:=encStr) (d:=(YR l).toArray) (vs:=vs) (by simp[h];omega) (k:=j) (by simpa using o);simpa using this) fun s G=>by
    have:s∈l:=by unfold YR at G;simpa using G
    obtain⟨j,o,rfl⟩:=z0v.1 this;exact(m j o).2⟩)
  exact⟨.p (.tup []),.tuple #[],σ,β,_,rfl,⟨rfl,rfl⟩,.p (.tup [] #[] (fun _=>undef) rfl (by simp) (by simp)),z,L⟩
def Fv(l:List Str):(Go.Lib.compact l).length<=l.length:=by
 unfold Go.Lib.compact Go.Lib.compactUpTo;rw[x8b];exact z1q (z2p _ _) (by simp)
def Qf(h:s∈Go.Lib.compact l):s∈l:=by
 unfold Go.Lib.compact Go.Lib.compactUpTo at h;obtain⟨j,m,rfl⟩:=x8c.1 h;have:=(z0u.1 m).1;have i:j<l.length:=by simpa using this
 simp[i]
def Ze[Inhabited α]{enc:α->Value}{d:Array α}{o:Nat}:(putCells enc o d vs).size=vs.size:=by simp[putCells]
def HV(l:List Str)(J:l.length<=1000000000):
  SpecH prog 136 [.hd 1000 0 l.length] [(1000,.own 9 1 (l.map .str))] (fun r H=>r=.hd 1000 0 (Go.Lib.compact l).length/\H=[(1000,.own 9 1 ((Go.Lib.compact l).map .str))]):=by
 refine⟨call136,fun σ β w K U o hH=>?_⟩;obtain⟨v,rfl⟩:=x2w U;have o:=o 0 _ rfl;have o:RepL σ β (.hd 1000 0 l.length) v:=by simpa using o
 have c:=hH.chunks 1000 _ x8l;have Q:=Fv l;rcases c with⟨t,f⟩|⟨i,vs,y,C,g,E,F,L,M⟩
 .have A:l=[]:=by simpa using f
  subst A;obtain⟨rfl,_⟩:=Sl o t;have u:=Any.slices_Compact_string_empty Uf none 0 w;change Calls prog 136 _ _ _ at u;refine u.mono ?_;rintro e w' ⟨rfl,rfl⟩;exact⟨.hd 1000 0 0,.slice none 0 0,σ,β,_,rfl,⟨rfl,rfl⟩,.hdn 1000 t,by simpa[Go.Lib.compact,Go.Lib.compactUpTo]using hH,by simpa[Go.Lib.compact,Go.Lib.compactUpTo]using Later.refl _ _ _ _⟩
 .have D:=Lu o y;subst D;have B:=(hH.apart 1000 (by simp) i y i.blk i.has_blk).2;have R:l.length<=vs.size:=by rw[E,Nat.mul_one];simpa using F
  have x:l.length<=i.cap:=by simpa using F
  have h:=fun j m=>Cp (σ:=σ) (l:=l) M (j:=j) m;have u:=Any.slices_Compact_string Uf i.blk 0 i.cap l w (fun j m=>by
   have z:j<l.length:=by simpa using m
   refine⟨?_,YH g _⟩;rw[DQ g,z0t,(h j z).1];simp[z]) (by omega) x
  change Calls prog 136 _ _ _ at u;refine u.mono ?_;rintro e w' ⟨rfl,q,rfl⟩;obtain⟨I,G⟩:=Uy (enc:=encStr) (n:=q) (os:=#[]) (d:=(Go.Lib.compact l++List.replicate (l.length-(Go.Lib.compact l).length) []).toArray) g B;rw[grow_empty]at I G;obtain⟨a,O⟩:=Pm (c':=.own 9 1 ((Go.Lib.compact l).map .str)) hH y I (.inr ⟨i,_,y,C,G,by rw[Ze];exact E,by simp;omega,L,Cn (fun j m=>by
   have:=NJ (enc:=encStr) (d:=(Go.Lib.compact l++List.replicate (l.length-(Go.Lib.compact l).length) []).toArray) (vs:=vs) (by simp;omega) (k:=j) (by simp;omega);rw[this];simp[List.getElem_append_left m]) fun s V=>by
    obtain⟨j,m,rfl⟩:=z0v.1 (Qf V);exact(h j m).2⟩)
  refine⟨.hd 1000 0 (Go.Lib.compact l).length,_,σ,β,_,rfl,⟨rfl,rfl⟩,?_,a,O⟩;have:=RepL.hd (σ:=σ) (β:=β) 1000 0 (Go.Lib.compact l).length i 0 y (by omega) (.inl (by simp));simpa using this
def UN(q:(QC p).1=0){f:Pr}(o:f∈p.A){t:S}(r:t∈flL f.body):knownB p f (procsN p) t=true:=by
 obtain⟨_,_,h⟩:=WV q;have i:=z3i.1 h f o;unfold VY at i;cases m:(XF (Vs f)||(Vs f).any fun n=>p.B.any fun s=>n==s)<;>rw[m]at i
 .simp only[x9k,Option.map_eq_none_iff]at i;have:=z2m.1 i t r;simpa using this
 .cases i
def U1(q:(QC p).1=0){f:Pr}(n:f∈p.A){t:S}(r:t∈flL f.body)(o:t.kind=4):t.D∈procsN p/\t.D≠mainS:=by
 have:=UN q n r;unfold knownB at this;simp only[x9g,z3x,x9o]at this;rcases this.2 with h|h
 .exact absurd o h
 .simp only[z1b,z2t,ne_eq]at h;refine⟨?_,h.1⟩;obtain⟨s,i,m⟩:=z0g.1 h.2;have:=eq_of_beq m;exact this▸i
def GF(f:Pr):List Str:=((flL f.body).filter fun t=>decide (t.kind=4)).map S.D
def YZ(f:Pr):List Str:=Go.Lib.compact (YR (GF f))
def NF:s∈YR l↔s∈l:=by unfold YR;simp
def UT(l:List Str):(YR l).length=l.length:=by unfold YR;simp
def F9(f:Pr):(YZ f).length<=cntL f.body:=by
 have:=Fv (YR (GF f));rw[UT]at this;unfold YZ;refine z1q this ?_;unfold GF;rw[x8b,<-Vq];exact z2p _ _
def PP(r:(QC p).1=0){f:Pr}(q:f∈p.A)(h:s∈YZ f):s∈procsN p:=by
 have i:=NF.1 (Qf h);obtain⟨t,m,rfl⟩:=x8c.1 i;obtain⟨n,o⟩:=z0u.1 m;exact(U1 r q n (by simpa using o)).1
def Zc{n:Str}(h:n∈procsN p):∃(k:Nat) (o:k<p.A.length),idxF (fun f=>f.name==n) p.A=k/\p.A.find? (fun f=>f.name==n)=some p.A[k]/\p.A[k].name=n:=by
 have q:p.A.any (fun f=>f.name==n)=true:=by
  obtain⟨f,i,m⟩:=x8c.1 h;exact z0g.2 ⟨f,i,by simp[m]⟩
 obtain⟨k,o,i,m,r⟩:=Sc q;exact⟨k,o,i,r,by simpa using m⟩
def TB(p:Pg)(n:Str)(k:Nat)(g:k<p.A.length)(c:idxF (fun f=>f.name==n) p.A=k)(a:cntP p.A<=1000):aP 249 [.ip (sheetOf p).cells,.str n] (eStrs (YZ p.A[k])):=by
 refine sC B1 func249 ?_;conv=>whnf
 repeat' ((first|(refine iM fun _=>?_)|refine cP (XE _ _) ?_|refine cP (CY p (j:=k) (f:=p.A[k]'g) (by simp) a) ?_ (ha:=.cons (Sub.refl _) (.cons (Sub.int (by exact c)) .nil)))<;>conv=>whnf)
 have m:=BL (k:Nat) 0 (-1) 0 (offN p.A k) p.A[k].body;have u:(itL (k:Nat) 0 (-1) 0 (offN p.A k) p.A[k].body).length<=1000:=by
  have:=(QY p).2.2.2.2 k p.A[k] (by simp);rw[ZC];omega
 generalize x:itL (k:Nat) 0 (-1) 0 (offN p.A k) p.A[k].body=its at m u⊢;have d:=UQ its;have r:GF p.A[k]=(its.filter fun it=>decide (it.s.kind=4)).map fun it=>it.s.D:=by
  unfold GF;rw[<-m,List.filter_map,z4u];rfl
 refine lJ (fun i:Nat×List Str=>⟨[(5,.hd 0 0 i.2.length),(12,.p (UD its)),(13,.p (.int .i64 (its.map fun i=>AV.agg i.cells).length)),(14,.j i.1)],[(0,.own 9 1 (i.2.map .str))]⟩) (fun i=>i.1<=its.length/\i.2.length<=i.1/\i.2++((its.drop i.1).filter fun it=>decide (it.s.kind=4)).map (fun it=>it.s.D)=GF p.A[k]) (fun i=>its.length-i.1) (0,[]) (lM [(0,.own 9 1 [])]) ⟨x8i _,x9h _,by rw[r];rfl⟩ ?_;rintro⟨j,h⟩ ⟨y,z,o⟩;simp only at y z o⊢;rcases x8o j its.length with t|t
 .conv=>whnf
  repeat' ((first|(refine gX ?_;intros)|refine pS ?_|(apply bD<;>intro _<;>try omega))<;>conv=>whnf)
  .exact ⟨(j+1,h++[its[j].s.D]),⟨by simp only;omega,by simp;omega,by simp only;rw[<-o,QG t,filter_cons,if_pos (by simp[*])];simp⟩,by simp only;omega,Le.of_eq (by simp only[x8m,x8a];rfl)⟩
  .exact nX (j+1,h) ⟨by simp only;omega,by simp only;omega,by simp only;rw[<-o,QG t,filter_cons,if_neg (by simp[*])]⟩
 .have q:h=GF p.A[k]:=by
   rw[x9j t]at o;simpa using o
  conv=>whnf
  repeat' ((first|(apply bD<;>intro _<;>try omega)|(refine cH rH2 0 (DT h (by omega)) ?_)|(refine cH rH2 0 (HV (YR h) (by rw[UT];omega)) ?_ (ha:=(x9t (z4q (by rw[UT];rfl)) z1w))))<;>conv=>whnf)
  exact⟨_,.hd rfl (by simp),by unfold YZ;rw[<-q];rfl⟩
def WO(out:List Str):List Str->List Str
 |[]=>out
 |n::r=>WO (if(out.any fun s=>n==s)=true then out else out++[n]) r
def Qy{out:List Str}(h:j<l.length):WO out (l.drop j)=WO (if(out.any fun s=>l[j]==s)=true then out else out++[l[j]]) (l.drop (j+1)):=by
 rw[QG h,WO]
theorem HF{p:Pg}:∀(l:List Str){out:List Str},out.Nodup->(∀s∈out,s∈procsN p)->(∀s∈l,s∈procsN p)->(WO out l).Nodup/\(∀s∈WO out l,s∈procsN p)/\∃r,WO out l=out++r
 |[],out,h1,h2,_=>⟨h1,h2,[],by rw[WO];simp⟩
 | n::r,out,h1,h2,h3=>by
   rw[WO];split
   .exact HF r h1 h2 fun s h=>h3 s (x8r _ h)
   .rename_i y;have i:n∉out:=fun x=>y (z0g.2 ⟨n,x,by simp⟩);obtain⟨o,q,z,t⟩:=HF (p:=p) r (out:=out++[n]) (z0a.2 ⟨h1,by simp,fun a ha b m=>by simp at m;subst m;exact fun u=>i (u▸ha)⟩) (fun s h=>by
     rcases x8e.1 h with h|h
     .exact h2 s h
     .simp at h;subst h;exact h3 _ x8l) fun s h=>h3 s (x8r _ h)
    exact⟨o,q,n::z,by rw[t];simp⟩
def Fq(p:Pg)(n:Str):List Str:=match p.A.find? (fun f=>f.name==n)with
 |some f=>YZ f
 |none=>[]
def VP(p:Pg):Nat->Nat->List Str->List Str
 |0,_,out=>out
 | fuel+1,i,out=>match out[i]?with
   |some n=>VP p fuel (i+1) (WO out (Fq p n))
   |none=>out
def CB(p:Pg)(n:Str):List Str:=YR (VP p (p.A.length+1) 0 [n])
theorem DS{α:Type}[BEq α][LawfulBEq α]:∀{l m:List α},l.Nodup->(∀s∈l,s∈m)->l.length<=m.length
 |[],m,_,_=>x8i _
 | a::r,m,h1,h2=>by
   have ha:=h2 a x8l;have:=DS (l:=r) (m:=m.erase a) (z0n.1 h1).2 fun s h=>(List.mem_erase_of_ne fun i=>(z0n.1 h1).1 (by rw[<-i];exact h)).2 (h2 s (x8r _ h));rw[List.length_erase_of_mem ha]at this;have:=z4p ha;simp only[x9f];omega
def Mg{n:Str}(i:k<p.A.length)(h:p.A.find? (fun f=>f.name==n)=some p.A[k]):Fq p n=YZ p.A[k]:=by
 unfold Fq;rw[h]
def Mh(m:(QC p).1=0){n:Str}(h:s∈Fq p n):s∈procsN p:=by
 unfold Fq at h;split at h
 .rename_i f i;exact PP m (z1a i) h
 .cases h
def Oc(p:Pg)(n:Str)(H:(QC p).1=0)(U:n∈procsN p):aP 189 [.ip (sheetOf p).cells,.str n] (eStrs (CB p n)):=by
 refine sC RN func189 ?_;conv=>whnf
 obtain⟨R,hb,Z⟩:=WV H;obtain⟨hg,hpl,M⟩:=ZM R;have Y:(procsN p).length=p.A.length:=by simp[procsN]
 repeat' ((first|refine x9p rfl ?_|refine aD ?_|refine z4w (fun x hx=>by rcases x9q.1 hx with rfl;rfl) rfl ?_)<;>conv=>whnf)
 refine lI (fun i:Nat×List Str=>⟨[(0,.p (.ip (sheetOf p).cells)),(5,.hd 0 0 i.2.length),(6,.j i.1)],[(0,.own 9 1 (i.2.map .str))]⟩) (fun i=>i.1<=i.2.length/\i.2.Nodup/\(∀s∈i.2,s∈procsN p)/\VP p (p.A.length+1-i.1) i.1 i.2=VP p (p.A.length+1) 0 [n]) (fun i=>p.A.length+1-i.1) (0,[n]) ⟨x8i _,by simp,by simpa using U,rfl⟩ ?_;rintro⟨j,out⟩ ⟨I,g,f,t⟩;simp only at I g f t⊢;have hol:=DS g f;rcases x8o j out.length with c|c
 .obtain ⟨k,F,E,D,V⟩:=Zc (f _ (x9w c));have C:=F9 p.A[k];have L:cntL p.A[k].body<=200:=by
   have:=(QY p).2.2.2.2 k p.A[k] (by simp);omega
  conv=>whnf
  repeat' ((first|(refine gX ?_;intros)|refine z2b j rfl c ?_|refine z4b j 0 (.str out[j]) (by omega) (by simp[c]) ?_|refine cP (TB p out[j] k F E (by omega)) ?_|(apply bD<;>intro _<;>try omega))<;>conv=>whnf)
  have d:∀s∈YZ p.A[k],s∈procsN p:=fun s h=>PP H (x9w F) h;have B:=Mg F D;have r:VP p (p.A.length+1-j) j out=VP p (p.A.length+1-(j+1)) (j+1) (WO out (YZ p.A[k])):=by
   rw[show p.A.length+1-j=(p.A.length+1-(j+1))+1 by omega,VP,x8p c];simp only;rw[B]
  rw[r]at t;obtain⟨y,z,rr,a⟩:=HF (YZ p.A[k]) g f d;generalize YZ p.A[k]=cs at d t y z a C⊢;have G:(cs.map AV.str).length=cs.length:=x8b _;refine lI (fun i:Nat×List Str=>⟨[(0,.p (.ip (sheetOf p).cells)),(5,.hd 0 0 i.2.length),(6,.j j),(22,.p (eStrs cs)),(23,.p (.int .i64 (cs.map AV.str).length)),(24,.j i.1)],[(0,.own 9 1 (i.2.map .str))]⟩) (fun i=>i.1<=cs.length/\i.2.length<=out.length+i.1/\WO i.2 (cs.drop i.1)=WO out cs) (fun i=>cs.length-i.1) (0,out) ⟨x8i _,by simp,rfl⟩ ?_;rintro⟨m,q⟩ ⟨J,K,u⟩;simp only at J K u⊢;rcases x8o m cs.length with o|o
  .conv=>whnf
   repeat' ((first|(refine gX ?_;intros)|(refine QH (QV q (cs[m]'o)) (.cons (.hd rfl (by simp)) (.cons (.p (Sub.refl _)) .nil)) (by rintro _ rfl;rfl) ?_;rintro _ rfl)|refine pS ?_|((first|apply bD|apply bN)<;>intro _<;>try omega))<;>conv=>whnf)
   .exact nX (m+1,q) ⟨by simp only;omega,by simp only;omega,by simp only;rw[<-u,Qy o,if_pos (by assumption)]⟩
   .exact ⟨(m+1,q++[cs[m]]),⟨by simp only;omega,by simp;omega,by simp only;rw[<-u,Qy o,if_neg (by simp[*])]⟩,by simp only;omega,Le.of_eq (by simp only[x8m,x8a];rfl)⟩
  .rw [x9j o,WO]at u;subst u;have O:out.length<=(WO out cs).length:=by rw[a];simp
   conv=>whnf
   repeat' ((first|refine wI ?_|(apply bD<;>intro _<;>try omega))<;>conv=>whnf)
   exact nX (j+1,WO out cs) ⟨by simp only;omega,y,z,t⟩
 .have Q:j=out.length:=by omega
  have r:VP p (p.A.length+1-j) j out=out:=by
   rw[show p.A.length+1-j=(p.A.length-j)+1 by omega,VP,z0x (by omega)]
  rw[r]at t;conv=>whnf
  repeat' ((first|(refine iM fun _=>?_)|(apply bD<;>intro _<;>try omega)|(refine cH rH2 0 (DT out (by omega)) ?_))<;>conv=>whnf)
  exact⟨_,.hd rfl (by simp[UT]),by unfold CB;rw[<-t];rfl⟩
mutual
theorem q4t:∀(x:X)(out:List Str),(Wn x out).length<=out.length+wX x
 | .mk op n name kids,out=>by
   rw[Wn,wX];have:=EO kids (if op=2/\(out.any fun s=>name==s)=false then out++[name]else out);split at this
   ·rename_i h;rw[if_pos h];simp at this;omega
   ·rename_i h;rw[if_neg h];omega
theorem EO:∀(l:List X)(out:List Str),(YF l out).length<=out.length+wXs l
 |[],out=>by rw[YF];omega
 | x::r,out=>by
   have h1:=q4t x out;have h2:=EO r (Wn x out);rw[YF,wXs];omega
end
def SL(x:X):(QN x).length<=wX x:=by
 unfold QN;have:=q4t x [];cases J0 x<;>simp at this⊢;exact this
theorem Ka:∀l:List Arg,(l.flatMap JX).length<=Wq l
 |[]=>by simp
 | a::r=>by
   have h:=Ka r;have i:=SL a.x;simp only[z0e,x8m,Wq];have m:(JX a).length<=1+(QN a.x).length:=by
    unfold JX;cases a.ref<;>simp;omega
   omega
def SM(t:S):(ZU t).length<=wS t:=by
 have h:=Ka t.args;have i:=SL t.x;rw[Ht];have m:(HI t).length<=1+(QN t.x).length:=by
  unfold HI;cases(decide (t.kind≠10) && !(t.name==[]):Bool)<;>simp;omega
 unfold ZU;rw[x8m];omega
def RT{b:Bool}(h:b=true):Sub (.bool b) .tt:=fun _ _ i=>by subst h;cases i;exact .tt
def TP(p:Pg)(m:Fit p)(q:(QC p).1=0)(n:Str)(o:n∈procsN p):aP 188 [.agg p.cells,.str n] .tt:=by
 refine sC B2 func188 ?_;conv=>whnf
 repeat' ((first|refine cP (KE p m) ?_|refine cP (WE p.A 248 (.ip [.str n]) (fun f=>f.name==n) (N4 n)) ?_|(apply bD<;>intro _<;>try omega))<;>conv=>whnf)
 have:p.A.any (fun f=>f.name==n)=true:=by
  obtain⟨f,h,i⟩:=x8c.1 o;exact z0g.2 ⟨f,h,by simp[i]⟩
 exact⟨_,.p (RT this),rfl⟩
def Hf(p:Pg)(t:S):List Str:=(ZU t).filter fun v=>p.B.any fun s=>v==s
def Vy(p:Pg)(n:Str):List Str:=match p.A.find? (fun f=>f.name==n)with
 |some f=>(flL f.body).flatMap (Hf p)
 |none=>[]
def YB(p:Pg)(n:Str):List Str:=(CB p n).flatMap (Vy p)
def YD(p:Pg)(n:Str):List Str:=Go.Lib.compact (YR (YB p n))
theorem Dq{p:Pg}(m:(QC p).1=0):∀(fuel i:Nat)(out:List Str),out.Nodup->(∀s∈out,s∈procsN p)->(VP p fuel i out).Nodup/\∀s∈VP p fuel i out,s∈procsN p
 |0,i,out,h1,h2=>by rw[VP];exact⟨h1,h2⟩
 | fuel+1,i,out,h1,h2=>by
   rw[VP];split
   .obtain ⟨n,o,_⟩:=HF (Fq p _) h1 h2 fun s h=>Mh m h;exact Dq m fuel (i+1) _ n o
   .exact ⟨h1,h2⟩
def S7(q:(QC p).1=0){n:Str}(o:n∈procsN p):(CB p n).length<=p.A.length/\∀s∈CB p n,s∈procsN p:=by
 obtain⟨m,i⟩:=Dq q (p.A.length+1) 0 [n] (by simp) (by simpa using o);unfold CB;rw[UT];refine⟨?_,fun s h=>i s (NF.1 h)⟩;have:=DS m i;simpa[procsN]using this
def YO{β:Type}{f:α->List β}{l:List α}(h:j<l.length):(l.drop j).flatMap f=f l[j]++(l.drop (j+1)).flatMap f:=by
 rw[QG h,z0e]
def N3(p:Pg)(hf:Fit p)(F:(QC p).1=0)(n:Str)(U:n∈procsN p):aP 130 [.agg p.cells,.str n] (eStrs (YD p n)):=by
 refine sC Jk func130 ?_;conv=>whnf
 obtain⟨E,hb,hns⟩:=WV F;obtain⟨hg,hpl,hcn⟩:=ZM E;repeat' ((first|(refine iM fun _=>?_)|refine cP (TP p hf F n U) ?_|refine cP (Oc p n F U) ?_|refine cP (DY p (by omega) (by omega)) ?_)<;>conv=>whnf)
 obtain⟨H,d⟩:=S7 F U;have K:YD p n=Go.Lib.compact (YR (YB p n)):=rfl;have g:YB p n=(CB p n).flatMap (Vy p):=rfl;rw[K];generalize CB p n=ns at H d g⊢;have hnl:(ns.map AV.str).length=ns.length:=x8b _;refine lJ (fun i:Nat×List Str=>⟨[(2,.p (.ip p.cells)),(5,.p (.ip (sheetOf p).cells)),(6,.hd 0 0 i.2.length),(21,.p (eStrs ns)),(22,.p (.int .i64 (ns.map AV.str).length)),(23,.j i.1)],[(0,.own 9 1 (i.2.map .str))]⟩) (fun i=>i.1<=ns.length/\i.2.length<=4200000*i.1/\i.2++(ns.drop i.1).flatMap (Vy p)=YB p n) (fun i=>ns.length-i.1) (0,[]) (lM [(0,.own 9 1 [])]) ⟨x8i _,by simp,by rw[g];rfl⟩ ?_;rintro⟨j,o⟩ ⟨h2,h3,z⟩;simp only at h2 h3 z⊢;rcases x8o j ns.length with D|D;rotate_left 1
 .have c:o=YB p n:=by
   rw[x9j D]at z;simpa using z
  rw[<-c];conv=>whnf
  repeat' ((first|(apply bD<;>intro _<;>try omega)|(refine cH rH2 0 (DT o (by omega)) ?_)|(refine cH rH2 0 (HV (YR o) (by rw[UT];omega)) ?_ (ha:=(x9t (z4q (by rw[UT];rfl)) z1w))))<;>conv=>whnf)
  exact⟨_,.hd rfl (by simp),rfl⟩
 obtain⟨k,hk,Q,I,hnk⟩:=Zc (d _ (x9w D));have L:Vy p ns[j]=(flL p.A[k].body).flatMap (Hf p):=by unfold Vy;rw[I]
 rw[YO D,L]at z;have J:=hf.pr (x9w hk);have C:p.A[k]?=some p.A[k]:=by simp
 conv=>whnf
 repeat' ((first|(refine gX ?_;intros)|refine cP (XE _ _) ?_|refine cP (CY p (j:=k) (f:=p.A[k]'hk) C (by omega)) ?_ (ha:=.cons (Sub.refl _) (.cons (Sub.int (by exact Q)) .nil))|(apply bD<;>intro _<;>try omega))<;>conv=>whnf)
 have y:=BL (k:Nat) 0 (-1) 0 (offN p.A k) p.A[k].body;have u:∀m (E:m<(itL (k:Nat) 0 (-1) 0 (offN p.A k) p.A[k].body).length),wS (itL (k:Nat) 0 (-1) 0 (offN p.A k) p.A[k].body)[m].s<=21000:=fun m E=>by
  have R:(itL (k:Nat) 0 (-1) 0 (offN p.A k) p.A[k].body)[m].s∈flL p.A[k].body:=by
   rw[<-y];exact x8c.2 ⟨_,x9w E,rfl⟩
  have:=Yy _ _ R;unfold wPr at J;omega
 have O:(itL (k:Nat) 0 (-1) 0 (offN p.A k) p.A[k].body).length<=200:=by
  have:=(QY p).2.2.2.2 k p.A[k] C;rw[ZC];omega
 rw[<-y]at z;generalize hits:itL (k:Nat) 0 (-1) 0 (offN p.A k) p.A[k].body=its at u O z⊢;have hil:=UQ its;refine lI (fun i:Nat×List Str=>⟨[(2,.p (.ip p.cells)),(5,.p (.ip (sheetOf p).cells)),(6,.hd 0 0 i.2.length),(21,.p (eStrs ns)),(22,.p (.int .i64 (ns.map AV.str).length)),(23,.j j),(31,.p (UD its)),(32,.p (.int .i64 (its.map fun i=>AV.agg i.cells).length)),(33,.j i.1)],[(0,.own 9 1 (i.2.map .str))]⟩) (fun i=>i.1<=its.length/\i.2.length<=o.length+21000*i.1/\i.2++(((its.drop i.1).map Item.s).flatMap (Hf p)++(ns.drop (j+1)).flatMap (Vy p))=YB p n) (fun i=>its.length-i.1) (0,o) ⟨x8i _,by simp,z⟩ ?_;rintro⟨m,r⟩ ⟨h6,h7,a⟩;simp only at h6 h7 a⊢;rcases x8o m its.length with x|x;rotate_left 1
 .rw [x9j x]at a;conv=>whnf
  repeat' ((first|refine wI ?_|(apply bD<;>intro _<;>try omega))<;>conv=>whnf)
  exact nX (j+1,r) ⟨by simp only;omega,by simp only;omega,by simpa using a⟩
 have hw:=u m x;have V:its[m].s.args.length<=21000:=by
  have:=Ht its[m].s;have:=JV its[m].s.args;omega
 have Y:=SM its[m].s;rw[x9i x,x9c,z0e,x9l]at a;have M:Hf p its[m].s=(ZU its[m].s).filter fun v=>p.B.any fun s=>v==s:=rfl;conv=>whnf
 repeat' ((first|(refine gX ?_;intros)|refine cP (Fh _ V) ?_|(apply bD<;>intro _<;>try omega))<;>conv=>whnf)
 rw[M]at a;generalize ZU its[m].s=vs at Y a⊢;have hvl:(vs.map AV.str).length=vs.length:=x8b _;refine lI (fun i:Nat×List Str=>⟨[(2,.p (.ip p.cells)),(5,.p (.ip (sheetOf p).cells)),(6,.hd 0 0 i.2.length),(21,.p (eStrs ns)),(22,.p (.int .i64 (ns.map AV.str).length)),(23,.j j),(31,.p (UD its)),(32,.p (.int .i64 (its.map fun i=>AV.agg i.cells).length)),(33,.j m),(39,.p (eStrs vs)),(40,.p (.int .i64 (vs.map AV.str).length)),(41,.j i.1)],[(0,.own 9 1 (i.2.map .str))]⟩) (fun i=>i.1<=vs.length/\i.2.length<=r.length+i.1/\i.2++((vs.drop i.1).filter (fun v=>p.B.any fun s=>v==s)++(((its.drop (m+1)).map Item.s).flatMap (Hf p)++(ns.drop (j+1)).flatMap (Vy p)))=YB p n) (fun i=>vs.length-i.1) (0,r) ⟨x8i _,by simp,a⟩ ?_;rintro⟨q,t⟩ ⟨h9,G,h⟩;simp only at h9 G h⊢;rcases x8o q vs.length with Z|Z
 .rw [x9i Z,filter_cons]at h;conv=>whnf
  repeat' ((first|refine cP (QV _ _) ?_|(refine gX ?_;intros)|refine pS ?_|((first|apply bD|apply bB)<;>intro _<;>try omega))<;>conv=>whnf)
  .exact ⟨(q+1,t++[vs[q]]),⟨by simp only;omega,by simp;omega,by rw[if_pos (by assumption)]at h;simpa using h⟩,by simp only;omega,Le.of_eq (by simp only[x8m,x8a];rfl)⟩
  .exact nX (q+1,t) ⟨by simp only;omega,by simp only;omega,by rw[if_neg (by simp[*])]at h;exact h⟩
 .rw [x9j Z]at h;conv=>whnf
  repeat' ((first|refine wI ?_|(apply bD<;>intro _<;>try omega))<;>conv=>whnf)
  exact nX (m+1,t) ⟨by simp only;omega,by simp only;omega,by simpa using h⟩
section
variable {P:Program}{T:Tab}{N:Nat}
def X5(s:List UInt8):Value:=.string ⟨s.toArray⟩
def q7g(l:List (List UInt8×AV)):XC:=.map (l.map fun x=>(X5 x.1,x.2))
def RQ{α:Type}(l:List (List UInt8×α))(k:List UInt8)(v:α):List (List UInt8×α):=
 match l with
 |[]=>[(k,v)]
 |x::r=>if k=x.1 then(x.1,v)::r else x::RQ r k v
def x0n{α:Type}(l:List (List UInt8×α))(k:List UInt8):Option α:=(l.find? fun x=>decide (k=x.1)).map (·.2)
def T1(h:Je es clock){e:MapEntry}(n:e.born=clock):Je (es.push e) (clock+1):=by
 refine⟨?_,fun x i=>?_⟩
 .rw [Array.toList_push,x8a,z0a];refine⟨h.1,by simp,fun a ha b m=>?_⟩;obtain⟨x,i,rfl⟩:=x8c.1 ha;have:=h.2 x i;simp only[x9c,z3p,x9q]at m;omega
 .rw [Array.toList_push]at i;rcases x8e.1 i with i|i
  .have:=h.2 x i;omega
  .rw [x9q.1 i,n];omega
theorem D2{α β:Type}(g:α->β)(f:α->α)(h:∀x,g (f x)=g x):∀(l:List α)(j:Nat),(l.modify j f).map g=l.map g
 |[],j=>by simp
 |x::r,0=>by simp[h]
 |x::r,j+1=>by simp[D2 g f h r j]
def By(h:Je es clock)(j:Nat){f:MapEntry->MapEntry}(o:∀e,(f e).born=e.born):Je (es.modify j f) clock:=by
 have e:(es.modify j f).toList.map (·.born)=es.toList.map (·.born):=by
  rw[Array.toList_modify];exact D2 _ f o _ j
 refine⟨by rw[e];exact h.1,fun x q=>?_⟩;have i:x.born∈(es.modify j f).toList.map (·.born):=x8c.2 ⟨x,q,rfl⟩;rw[e]at i;obtain⟨y,m,n⟩:=x8c.1 i;rw[<-n];exact h.2 y m
theorem OpK.makeMap{s:St}{o:Oper}{K:St->Prop}{t:TypeId}(q:o.op=.makeMap t none)(h:HT 60 0 s fun k=>setD N s.sl o.dst (.ext k .map) fun sl=>K ⟨sl,(k,.ext (q7g []))::s.H⟩):OpK P N s o K:=by
 refine⟨fun σ β a w f Q=>?_⟩;obtain⟨k,z,h⟩:=YG h;have i:(Chunk.ext (q7g [])).holds σ (β.set k (some ⟨w.heap.size,0,0,[],x8i _⟩)) (w.alloc (.map #[] 0)) k:=
  ⟨⟨w.heap.size,0,0,[],x8i _⟩,#[],0,by simp[Lab.set],heap_alloc_new w _,⟨.nil,fun x g=>by cases g⟩,rfl,by simp⟩
 obtain⟨r,c⟩:=f.new z rfl rfl i;obtain⟨sl,y,m⟩:=r.setD (v:=.ext k .map) (u:=.map (some w.heap.size)) (.ext k .map ⟨w.heap.size,0,0,[],x8i _⟩ _ (by simp[Lab.set]) rfl) h;exact VT (w':=w.alloc (.map #[] 0)) (by simp[execOp,q,Instr.makeMap]) ⟨σ,_,_,y,m,c⟩
def My(a b:List UInt8):((⟨a.toArray⟩:ByteArray)==⟨b.toArray⟩)=decide (a=b):=by
 show(a.toArray==b.toArray)=decide (a=b);by_cases h:a=b
 .subst h;simp
 .simp [h]
theorem K6{α:Type}(k:List UInt8):∀(es:List MapEntry)(l:List (List UInt8×α))(i:Nat),es.map (·.key)=l.map (fun x=>X5 x.1)->
  Instr.findNow .string (X5 k) es i=some (match l.findIdx? fun x=>decide (k=x.1)with
   |some j=>some (i+j,(es[j]?.map (·.val)).getD undef)
   |none=>none)
 |[],[],_,_=>rfl
 |[],_::_,_,h=>by cases h
 |_::_,[],_,h=>by cases h
 | e::es,x::l,i,h=>by
   simp only[x9c,List.cons.injEq]at h;have n:Instr.sameNow .string (X5 k) e.key=some (decide (k=x.1)):=by
    rw[h.1];show some ((⟨k.toArray⟩:ByteArray)==⟨x.1.toArray⟩)=_;rw[My]
   rw[Instr.findNow,n,findIdx?_cons];by_cases m:k=x.1
   .simp [m]
   .simp only[m,decide_false];rw[K6 k es l (i+1) h.2];cases l.findIdx? fun x=>decide (k=x.1)with
    |none=>rfl
    |some j=>simp;omega
def Ut{l:List (List UInt8×AV)}(n:es.size=(l.map fun x=>(X5 x.1,x.2)).length)(o:∀(m:Nat)(x:Value×AV),(l.map fun x=>(X5 x.1,x.2))[m]?=some x->∃e:MapEntry,es[m]?=some e/\e.key=x.1/\Rep σ x.2 e.val):
  es.toList.map (·.key)=l.map (fun x=>X5 x.1):=by
 apply z3m;intro m;rw[x9x,x9x];cases i:l[m]?with
 | none=>
   have:es.toList[m]?=none:=by
    rw[List.getElem?_eq_none_iff]at i⊢;simp at n⊢;omega
   rw[this];rfl
 | some x=>
   obtain⟨e,q,r,_⟩:=o m (X5 x.1,x.2) (by simp[i]);have h:es.toList[m]?=some e:=by simpa using q
   rw[h];simp[r]
def V6{P:Program}{t:TypeId}(h:P.underlying t=some .string)(b:Bool)(k:List UInt8)(w:World):(Instr.checkKey b 10000 t (X5 k)).run P w=.ok () w:=by
 have e:Instr.checkKey b 10000 t (X5 k)=Instr.checkKey b (9999+1) t (X5 k):=rfl;rw[e,Instr.checkKey,Sem.run_bind,run_underlying h,Result.andThen_ok];rfl
def q5y{l:List UInt8}(h:RepL σ β (.p (.str l)) v):v=X5 l:=h.strV.1
def Vu{P:Program}{r:Nat}(h:w.heap[r]?=some (.map es clock)):(getObj r).run P w=.ok (.map es clock) w:=by simp[getObj,Sem.run,h]
def Dk{P:Program}{r:Nat}(o:Obj)(h:w.heap[r]?=some (.map es clock)):(setObj r o).run P w=.ok () {w with heap:=w.heap.setIfInBounds r o}:=by simp[setObj,Sem.run,h]
theorem OpK.lookup(hT:TabOK P T){s:St}{o:Oper}{K:St->Prop}{t:TypeId}{x ix:Operand}(hop:o.op=.lookup t x ix false){k:Nat}(hx:QR s.sl x=.ext k .map){l:List (List UInt8×AV)}(hg:getH s.H k=some (.ext (q7g l))){c:List UInt8}(hk:QR s.sl ix=.p (.str c)){i ik:TyI}{kt et:TypeId}(ht:T.get t=some i)(hd:i.desc=.map kt et)(htk:T.get kt=some ik)(M:ik.desc=.string){v:AV}(B:x0n l c=some v)(h:setD N s.sl o.dst (.p v) fun sl=>K ⟨sl,s.H⟩):OpK P N s o K:=by
 refine⟨fun σ β a w C Q=>?_⟩;have z:=QW C.G x;have f:=QW C.G ix;rw[hx]at z;rw[hk]at f;have Y:=q5y f;generalize hxe:a.eval x=xv at z;cases z with
 | ext _ _ bi _ J L=>
   obtain rfl:xv=.map (some bi.blk):=L;obtain⟨bi',es,clock,q,hh,hbo,h1,h2⟩:=C.heap.chunks k _ (QF hg);rw[J]at q;cases q;have r:=Ut h1 h2;have hu:=hT.of ht;have u:=hT.of htk;rw[hd]at hu;rw[M]at u;obtain⟨j,hj,V⟩ : ∃j,(l.findIdx? fun x=>decide (c=x.1))=some j/\∃x,l[j]?=some x/\x.2=v:=by
    unfold x0n at B;cases O:l.find? fun x=>decide (c=x.1)with
    |none=>rw[O]at B;cases B
    | some x=>
      rw[O]at B;cases B;obtain⟨D,j,g,F,I⟩:=List.find?_eq_some_iff_getElem.1 O;refine⟨j,?_,x,by rw[x8p g,F],rfl⟩;rw[List.findIdx?_eq_some_iff_getElem];exact⟨g,by rw[F];exact D,fun i hi=>by simpa using I i hi⟩
   obtain⟨y,U,rfl⟩:=V;obtain⟨e,D,F,I⟩:=h2 j (X5 y.1,y.2) (by simp[U]);have m:=K6 c es.toList l 0 r;rw[hj]at m;have E:es.toList[j]?=some e:=by simpa using D
   simp only[E,z1e,z1k]at m;have A:(execOp a.eval o).run P w=.ok (.value e.val) w:=by
    have R:(Instr.findKey kt (X5 c) es.toList).run P w=.ok (some (0+j,e.val)) w:=by
     unfold Instr.findKey;rw[Sem.run_bind,run_underlying u,Result.andThen_ok,m];rfl
    have Z:(Instr.lookup t (.map (some bi.blk)) (X5 c) false).run P w=.ok e.val w:=by
     unfold Instr.lookup;rw[Sem.run_bind,run_underlying hu,Result.andThen_ok];simp only[Sem.run_bind,Vu hh,Result.andThen_ok,Sem.run_pure,V6 u,R];rfl
    simp only[execOp,hop,hxe,Y,Sem.run_bind,Z,Result.andThen_ok];rfl
   obtain⟨sl,hK,hr'⟩:=C.setD (.p I) h;exact VT A ⟨σ,β,_,hK,hr',Later.refl _ _ _ _⟩
def Rb{l:List (List UInt8×α)}{k:List UInt8}{v:α}(h:(l.findIdx? fun x=>decide (k=x.1))=none):RQ l k v=l++[(k,v)]:=by
 induction l with
 |nil=>rfl
 | cons x r m=>
   rw[findIdx?_cons]at h;by_cases i:k=x.1
   .simp [i]at h
   .simp [i]at h;rw[RQ,if_neg i,m (by simpa using h)];rfl
def OW{l:List (List UInt8×α)}{k:List UInt8}{v:α}(h:(l.findIdx? fun x=>decide (k=x.1))=some j):∃x,l[j]?=some x/\RQ l k v=l.set j (x.1,v):=by
 induction l generalizing j with
 |nil=>cases h
 | cons x r q=>
   rw[findIdx?_cons]at h;by_cases i:k=x.1
   .simp [i]at h;subst h;exact⟨x,rfl,by rw[RQ,if_pos i];rfl⟩
   .simp [i]at h;obtain⟨t,m,rfl⟩:=h;obtain⟨y,n,o⟩:=q m;exact⟨y,by simpa using n,by rw[RQ,if_neg i,o];rfl⟩
theorem OpK.mapUpdate(hT:TabOK P T){s:St}{o:Oper}{K:St->Prop}{t:TypeId}{x ix vx:Operand}(hop:o.op=.mapUpdate t x ix vx)(E:o.dst=none){k:Nat}(hx:QR s.sl x=.ext k .map){l:List (List UInt8×AV)}(hg:getH s.H k=some (.ext (q7g l))){f:List UInt8}(hk:QR s.sl ix=.p (.str f)){v:AV}(hvx:QR s.sl vx=.p v){i ik:TyI}{kt et:TypeId}(ht:T.get t=some i)(hd:i.desc=.map kt et)(htk:T.get kt=some ik)(hdk:ik.desc=.string)(h:Pc s.H k (.ext (q7g (RQ l f v))) fun H=>K ⟨s.sl,H⟩):OpK P N s o K:=by
 refine⟨fun σ β a w A Q=>?_⟩;have hx':=QW A.G x;have hk':=QW A.G ix;have hv':=QW A.G vx;rw[hx]at hx';rw[hk]at hk';rw[hvx]at hv';have hkv:=q5y hk';generalize hxe:a.eval x=xv at hx';generalize hve:a.eval vx=vv at hv';cases hv' with
 |p hvr=>
 cases hx' with
 | ext _ _ B _ D hd'=>
   obtain rfl:xv=.map (some B.blk):=hd';obtain⟨bi',es,clock,M,hh,hbo,O,h2⟩:=A.heap.chunks k _ (QF hg);rw[D]at M;cases M;have hkeys:=Ut O h2;have hu:=hT.of ht;have I:=hT.of htk;rw[hd]at hu;rw[hdk]at I;have u:=K6 f es.toList l 0 hkeys;have F:=XU hg;have hlt:=(A.heap.apart k F B D B.blk B.has_blk).2;obtain⟨es',q,hrun,hbo',hsz,hent⟩ : ∃es' q,(Instr.mapUpdate t (.map (some B.blk)) (X5 f) vv).run P w=.ok () {w with heap:=w.heap.setIfInBounds B.blk (.map es' q)}/\Je es' q/\es'.size=(RQ l f v).length/\
     ∀(m:Nat)(x:Value×AV),((RQ l f v).map fun x=>(X5 x.1,x.2))[m]?=some x->∃e:MapEntry,es'[m]?=some e/\e.key=x.1/\Rep σ x.2 e.val:=by
    cases g:l.findIdx? fun x=>decide (f=x.1)with
    | none=>
      rw[g]at u;refine⟨es.push {key:=X5 f,val:=vv,born:=clock},clock+1,?_,T1 hbo rfl,?_,fun m y L=>?_⟩
      .have V:(Instr.findKey kt (X5 f) es.toList).run P w=.ok none w:=by
        unfold Instr.findKey;rw[Sem.run_bind,run_underlying I,Result.andThen_ok,u];rfl
       unfold Instr.mapUpdate;rw[Sem.run_bind,run_underlying hu,Result.andThen_ok];simp only[Sem.run_bind,Vu hh,Result.andThen_ok,Sem.run_pure,V6 I,V,Dk _ hh]
      .rw [Rb g];simpa using O
      .rw [Rb g]at L;simp only[x8b]at O;rw[x8a,z2a]at L;split at L
       .rename_i J;obtain⟨e,C,h4⟩:=h2 m y L;simp only[x8b]at J;exact⟨e,by rw[Array.getElem?_push,if_neg (by omega)];exact C,h4⟩
       .rename_i J;simp only[x8b]at J L;have hm0:m-l.length=0:=by
         have:=(x8t.1 L).1;simp at this;omega
        rw[hm0]at L;simp at L;subst L;exact⟨{key:=X5 f,val:=vv,born:=clock},by rw[Array.getElem?_push,if_pos (by omega)],rfl,hvr⟩
    | some j=>
      rw[g]at u;obtain⟨y,hy1,hy2⟩:=OW (v:=v) g;obtain⟨e,C,h4,h5⟩:=h2 j (X5 y.1,y.2) (by simp[hy1]);have hky:f=y.1:=by
       obtain⟨hlt,R,_⟩:=List.findIdx?_eq_some_iff_getElem.1 g;rw[x8p hlt]at hy1;cases hy1;simpa using R
      have h3':es.toList[j]?=some e:=by simpa using C
      have hjlt:j<es.size:=(x9r.1 C).1;simp only[h3',z1e,z1k,z0t]at u;have hek:e.key=X5 f:=by rw[h4,hky]
      refine⟨es.modify j fun e=>{e with key:=X5 f,val:=vv},clock,?_,By hbo j fun _=>rfl,?_,fun m z hz=>?_⟩
      .have V:(Instr.findKey kt (X5 f) es.toList).run P w=.ok (some (j,e.val)) w:=by
        unfold Instr.findKey;rw[Sem.run_bind,run_underlying I,Result.andThen_ok,u];rfl
       have hkt:(Instr.keyThatStays (((es[j]?).map (·.key)).getD (X5 f)) (X5 f)).run P w=.ok (X5 f) w:=by
        rw[C];simp only[z1e,z1k,hek];unfold Instr.keyThatStays;have:Instr.sameBits 10000 (X5 f) (X5 f)=true:=by
         unfold X5;show((⟨f.toArray⟩:ByteArray)==⟨f.toArray⟩)=true;rw[My];simp
        rw[if_pos this];rfl
       unfold Instr.mapUpdate;rw[Sem.run_bind,run_underlying hu,Result.andThen_ok];simp only[Sem.run_bind,Vu hh,Result.andThen_ok,Sem.run_pure,V6 I,V,hkt,Dk _ hh]
      .rw [hy2];simpa using O
      .rw [hy2,z0o]at hz;by_cases J:m=j
       .subst J;rw[z1m (by simp at O⊢;omega)]at hz;cases hz;exact⟨{e with key:=X5 f,val:=vv},by simp[z3f,C],by rw[hky],hvr⟩
       .rw [z0c (z3c J)]at hz;obtain⟨e',R,h7⟩:=h2 m z hz;exact⟨e',by rw[z3f,if_neg (z3c J)];exact R,h7⟩
   have hrun':(execOp a.eval o).run P w=.ok .skip {w with heap:=w.heap.setIfInBounds B.blk (.map es' q)}:=by
    simp only[execOp,hop,hxe,hkv,hve,Sem.run_bind,hrun,Result.andThen_ok];rfl
   obtain⟨H',hK,C,h4,h5⟩:=FV A.heap.nodup h;have hot:∀b,b≠B.blk->({w with heap:=w.heap.setIfInBounds B.blk (.map es' q)}:World).heap[b]?=w.heap[b]?:=fun b U=>z3d (z3c U);have Y:HRel σ β H' {w with heap:=w.heap.setIfInBounds B.blk (.map es' q)}:=by
    refine⟨fun b c U=>?_,fun j c g=>?_,by rw[C];exact A.heap.nodup,fun j g i' Z b U=>?_,fun j g j' hj'=>A.heap.inj j (C▸g) j' (C▸hj')⟩
    .obtain ⟨e,fr,R⟩:=A.heap.mem b c U;exact⟨e,fr,(hot b fun he=>by rw[he,hh]at R;cases R).trans R⟩
    .by_cases hjk:j=k
     .subst hjk;rw[h5 c g];exact⟨B,es',q,D,by simp[hlt],hbo',by simpa using hsz,hent⟩
     .have J:=h4 j c g hjk;exact(A.heap.chunks j c J).mono (Mem.le_refl σ) fun i' Z b U=>hot b fun he=>hjk (A.heap.inj j (x8c.2 ⟨_,J,rfl⟩) k F i' B Z D b U (.inl he.symm))
    .have:=A.heap.apart j (C▸g) i' Z b U;exact⟨this.1,by simpa using this.2⟩
   refine Jx hrun' ⟨σ,β,⟨s.sl,H'⟩,hK,⟨?_,?_,?_,Y⟩,Mem.le_refl σ,⟨rfl,rfl,rfl,x9h _,by simp,fun b _ hn=>hot b fun he=>hn ⟨k,F,B,D,.inl he.symm⟩⟩,fun b h0 O=>absurd h0 O,fun b ⟨j,g,r⟩=>.inl ⟨j,C▸g,r⟩,fun _ _ _=>rfl⟩
   .rw [E];exact A.size
   .rw [E];exact A.defers
   .rw [E];exact A.G
end
def XP(i:Str)(h:List Str):List Arg->List Str->Bool
 |[],_=>true
 |a::r,seen=>bif a.ref then bif (seen.any fun s=>a.name==s)||((a.name==i)||h.any fun s=>a.name==s)then false else XP i h r (seen++[a.name])else XP i h r seen
def M8(t:S)(h:List Str)(ha:t.args.length<=21000):aP 131 [.agg t.cells,eStrs h] (.bool (XP t.name h t.args [])):=by
 refine sC Hq func131 ?_;conv=>whnf
 repeat' ((refine iM fun _=>?_)<;>conv=>whnf)
 have u:(t.args.map fun a=>AV.agg a.cells).length=t.args.length:=x8b _;refine lJ (fun i:Nat×List Str=>⟨[(1,.p (eStrs h)),(2,.p (.ip t.cells)),(5,.hd 0 0 i.2.length),(9,.p (.sl (t.args.map fun a=>.agg a.cells))),(10,.p (.int .i64 (t.args.map fun a=>AV.agg a.cells).length)),(11,.j i.1)],[(0,.own 9 1 (i.2.map .str))]⟩) (fun i=>i.1<=t.args.length/\i.2.length<=i.1/\XP t.name h (t.args.drop i.1) i.2=XP t.name h t.args []) (fun i=>t.args.length-i.1) (0,[]) (lM [(0,.own 9 1 [])]) ⟨x8i _,x9h _,rfl⟩ ?_;rintro⟨j,m⟩ ⟨q,r,n⟩;simp only at q r n⊢;rcases x8o j t.args.length with o|o
 .rw [x9i o,XP]at n;conv=>whnf
  repeat' ((first|refine cP (QV _ _) ?_|(refine gX ?_;intros)|(refine QH (QV m (t.args[j]'o).name) (.cons (.hd rfl (by simp)) (.cons (.p (Sub.refl _)) .nil)) (by rintro _ rfl;rfl) ?_;rintro _ rfl)|refine pS ?_|((first|apply bD|apply bN|apply bB)<;>intro _<;>try omega))<;>conv=>whnf)
  all_goals first
   |exact RetK.ff (by rw[<-n];simp[*])
   |exact⟨(j+1,m++[t.args[j].name]),⟨by simp only;omega,by simp;omega,by simp only;rw[<-n];simp[*]⟩,by simp only;omega,Le.of_eq (by simp only[x8m,x8a];rfl)⟩
   |exact nX (j+1,m) ⟨by simp only;omega,by simp only;omega,by simp only;rw[<-n];simp[*]⟩
 .rw [x9j o,XP]at n;conv=>whnf
  repeat' (apply bD<;>intro _<;>first|omega|conv=>whnf)
  exact RetK.tt n.symm
def HB(p:Pg):Int×Int:=
 if(VO p).1≠0 then(1,0)else match(WI p).find? fun t=>decide (t.kind=4) && !XP t.name (YD p t.D) t.args []with
  |some t=>(8,t.id)
  |none=>(0,0)
def q0j(h:(VO p).1=0):(QC p).1=0/\(WI p).find? (fun t=>decide (t.kind=4) && !YK p t)=none:=by
 unfold VO at h;split at h
 .cases h
 .rename_i i;refine⟨by omega,?_⟩;split at h
  .cases h
  .assumption
def q3r{l:List (Str×AV)}{k:Str}{v:AV}{x:Str×AV}(h:x∈RQ l k v):x∈l\/x=(k,v):=by
 induction l with
 |nil=>rw[RQ]at h;exact .inr (by simpa using h)
 | cons y r m=>
   rw[RQ]at h;split at h
   .rename_i i;rcases x8s.1 h with h|h
    .exact .inr (by rw[h,i])
    .exact .inl (x8r _ h)
   .rcases x8s.1 h with h|h
    .exact .inl (by rw[h];exact x8l)
    .exact (m h).imp (x8r _) id
def q3l{l:List (Str×AV)}{k:Str}{v:AV}(h:s=k\/∃x∈l,x.1=s):∃x∈RQ l k v,x.1=s:=by
 induction l with
 | nil=>
   rcases h with rfl|⟨x,i,_⟩
   .exact ⟨(s,v),by rw[RQ];exact x8l,rfl⟩
   .cases i
 | cons y r o=>
   rw[RQ];split
   .rename_i q;rcases h with rfl|⟨x,i,rfl⟩
    .exact ⟨(y.1,v),x8l,q.symm⟩
    .rcases x8s.1 i with rfl|i
     .exact ⟨(x.1,v),x8l,rfl⟩
     .exact ⟨x,x8r _ i,rfl⟩
   .rcases h with rfl|⟨x,i,rfl⟩
    .obtain ⟨z,n,m⟩:=o (.inl rfl);exact⟨z,x8r _ n,m⟩
    .rcases x8s.1 i with rfl|i
     .exact ⟨x,x8l,rfl⟩
     .obtain ⟨z,n,m⟩:=o (.inr ⟨x,i,rfl⟩);exact⟨z,x8r _ n,m⟩
def q6l{l:List (Str×AV)}{g:Str->AV}(h:∀x∈l,x.2=g x.1){k:Str}(o:∃x∈l,x.1=k):x0n l k=some (g k):=by
 unfold x0n;cases i:l.find? fun x=>decide (k=x.1)with
 | none=>
   obtain⟨x,q,rfl⟩:=o;have:=z2m.1 i x q;simp at this
 | some x=>
   have n:=z1a i;have m:=z3k i;simp at m;simp[h x n,m]
def RA(p:Pg)(G:Fit p):aP 67 [.agg p.cells] (PR (HB p).1 (HB p).2):=by
 refine sC Dr func67 ?_;conv=>whnf
 repeat' ((first|refine cP (Jc p G) ?_|refine x9p rfl ?_|(apply bE<;>intro _<;>try omega))<;>conv=>whnf)
 rotate_left 1
 .have e:HB p=(1,0):=by unfold HB;rw[if_pos (by assumption)]
  exact QM (by rw[e]) (by rw[e])
 have E:(VO p).1=0:=by assumption
 obtain⟨O,_⟩:=q0j E;obtain⟨r,hb,hns⟩:=WV O;obtain⟨hg,hpl,Y⟩:=ZM r;have hl:(p.A.map fun f=>AV.agg f.cells).length=p.A.length:=x8b _;repeat' ((first|(refine iM fun _=>?_)|refine OpK.makeMap rfl ?_)<;>conv=>whnf)
 refine lI (fun i:Nat×List (Str×AV)=>⟨[(1,.p (.ip p.cells)),(2,.ptr 1 0),(3,.ext 0 .map),(15,.p (.sl (p.A.map fun f=>.agg f.cells))),(16,.p (.int .i64 (p.A.map fun f=>AV.agg f.cells).length)),(17,.j i.1)],[(0,.ext (q7g i.2)),(1,.obj 68 [.p (.int .i64 0),.j 0])]⟩) (fun i=>i.1<=p.A.length/\(∀x∈i.2,x.2=eStrs (YD p x.1))/\∀(m:Nat)(r:m<p.A.length),m<i.1->∃x∈i.2,x.1=p.A[m].name) (fun i=>p.A.length-i.1) (0,[]) ⟨x8i _,by simp,by intro m r h;omega⟩ ?_;rintro⟨j,l⟩ ⟨V,d,B⟩;simp only at V d B⊢;rcases x8o j p.A.length with R|R
 .have K:p.A[j].name∈procsN p:=x8c.2 ⟨_,x9w R,rfl⟩;conv=>whnf
  repeat' ((first|refine cP (N3 p G O _ K) ?_|refine dA ?_|(refine gX ?_;intros)|refine OpK.mapUpdate ZP rfl rfl rfl rfl rfl rfl rfl rfl rfl rfl ?_|(apply bD<;>intro _<;>try omega))<;>conv=>whnf)
  refine nX (j+1,RQ l p.A[j].name (eStrs (YD p p.A[j].name))) ⟨by simp only;omega,fun x Q=>?_,fun m r h=>?_⟩
  .rcases q3r Q with Q|rfl
   .exact d x Q
   .rfl
  .refine q3l ?_;rcases x8o m j with z|z
   .exact .inr (B m r z)
   .obtain rfl:m=j:=by simp only at h;omega
    exact .inl rfl
 have I:∀n∈procsN p,x0n l n=some (eStrs (YD p n)):=fun n K=>q6l (g:=fun n=>eStrs (YD p n)) d (by
  obtain⟨f,o,rfl⟩:=x8c.1 K;obtain⟨m,r,rfl⟩:=List.getElem_of_mem o;exact B m r (by omega))
 clear d B;conv=>whnf
 repeat' ((first|(refine iM fun _=>?_)|refine cP (DY p (by omega) (by omega)) ?_|(apply bD<;>intro _<;>try omega))<;>conv=>whnf)
 have E:HB p=match(WI p).find? fun t=>decide (t.kind=4) && !XP t.name (YD p t.D) t.args []with
  |some t=>(8,t.id)
  |none=>(0,0):=by unfold HB;rw[if_neg (by omega)]
 have hil:=UQ (sheetOf p).l;have Z:(sheetOf p).l.length<=200:=by have:=(QY p).2.2.2.1;omega
 have y:=NI (q:=fun t=>decide (t.kind=4) && !XP t.name (YD p t.D) t.args []) (sheetOf p).l;rw[DR]at y;have F:HB p=match((sheetOf p).l.find? fun it=>decide (it.s.kind=4) && !XP it.s.name (YD p it.s.D) it.s.args []).map (fun it=>it.s.id)with
  |some a=>(8,a)
  |none=>(0,0):=by
  rw[E,y];cases(WI p).find? fun t=>decide (t.kind=4) && !XP t.name (YD p t.D) t.args []<;>rfl
 rw[F];refine lI (fun k:Nat=>⟨[(2,.ptr 1 0),(3,.ext 0 .map),(33,.p (UD (sheetOf p).l)),(34,.p (.int .i64 ((sheetOf p).l.map fun i=>AV.agg i.cells).length)),(35,.j k)],[(0,.ext (q7g l)),(1,.obj 68 [.p (.int .i64 0),.j 0])]⟩) (fun k=>k<=(sheetOf p).l.length/\((sheetOf p).l.drop k).find? (fun it=>decide (it.s.kind=4) && !XP it.s.name (YD p it.s.D) it.s.args [])=(sheetOf p).l.find? fun it=>decide (it.s.kind=4) && !XP it.s.name (YD p it.s.D) it.s.args []) (fun k=>(sheetOf p).l.length-k) 0 ⟨x8i _,rfl⟩ ?_;rintro k ⟨h5,C⟩;rcases x8o k (sheetOf p).l.length with u|u;rotate_left 1
 .rw [<-C,DZ u];conv=>whnf
  repeat' ((first|refine x9p rfl ?_|(apply bD<;>intro _<;>try omega))<;>conv=>whnf)
  exact QM rfl rfl
 have hw:=Ao G u;have L:(sheetOf p).l[k].s.args.length<=21000:=by
  have:=Ht (sheetOf p).l[k].s;have:=JV (sheetOf p).l[k].s.args;omega
 have M:(sheetOf p).l[k].s.kind=4->(sheetOf p).l[k].s.D∈procsN p:=fun J=>by
  have c:(sheetOf p).l[k].s∈WI p:=by
   rw[<-DR];exact x8c.2 ⟨_,x9w u,rfl⟩
  unfold WI at c;obtain⟨f,o,H⟩:=z0j.1 c;exact(U1 O o H J).1
 conv=>whnf
 repeat' ((first|refine cP (M8 _ _ L) ?_|(refine gX ?_;intros)|refine OpK.lookup ZP rfl rfl rfl rfl rfl rfl rfl rfl (I _ (M (by omega))) ?_|((first|apply bD|apply bN)<;>intro _<;>try omega))<;>conv=>whnf)
 all_goals first
  | (have U:=DW (p:=fun it:Item=>decide (it.s.kind=4) && !XP it.s.name (YD p it.s.D) it.s.args []) u (by simp[*])
     rw[<-C,U];exact QM rfl rfl)
  |exact nX (k+1) ⟨by omega,by rw[<-C,Qd (p:=fun it:Item=>decide (it.s.kind=4) && !XP it.s.name (YD p it.s.D) it.s.args []) u (by simp[*])]⟩
def q5e(p:Pg):Int×Int:=
 if YV p=false then(1,0)else
 if(QC p).1≠0 then QC p else
 if(VO p).1≠0 then VO p else
 if(LW p).1≠0 then LW p else HB p
def Em(p:Pg)(h:Fit p):aP 30 [.agg p.cells] (PR (q5e p).1 (q5e p).2):=by
 refine sC RW func30 ?_;conv=>whnf
 repeat' ((first|refine cP (N5 _) ?_|refine cP (KE p h) ?_|refine cP (Jc p h) ?_|refine cP (Aq p h) ?_|refine cP (RA p h) ?_|refine x9p rfl ?_|((first|apply bD|apply bN)<;>intro _<;>try omega))<;>conv=>whnf)
 all_goals exact QM (by unfold q5e;simp[*]) (by unfold q5e;simp[*])
def QP(p:Pg):Bool:=decide ((q5e p).1=0)
def Jo(p:Pg)(h:Fit p):aP 7 [.agg p.cells] (.bool (QP p)):=by
 refine sC RV func7 ?_;conv=>whnf
 repeat' (refine cP (Em p h) ?_;conv=>whnf)
 exact RetK.bool rfl
def ZB(x:Int):Int:=if x = -1 then 9223372036854775807 else x
def EL(x:Int):aP 96 [.int .i64 x] (.int .i64 (ZB x)):=by
 refine sC RU func96 ?_;conv=>whnf
 repeat' (apply bD<;>intro _<;>first|omega|conv=>whnf)
 all_goals exact RetK.int (by unfold ZB;simp[*])
def Hu(x:Int):aP 163 [.int .i64 x] (.bool false):=by
 refine sC Y7 func163 ?_;conv=>whnf
 skip
 exact RetK.bool (by simp)
def Sv(x y:Int):Int:=if x<y then -1 else if y<x then 1 else 0
def Yv(x y:Int):aP 95 [.int .i64 x,.int .i64 y] (.int .i64 (Sv x y)):=by
 refine sC Xf func95 ?_;conv=>whnf
 repeat' ((first|refine cP (Hu _) ?_|((first|apply bD|apply bB)<;>intro _<;>try omega))<;>conv=>whnf)
 all_goals first
  |contradiction
  |exact RetK.int (by unfold Sv;simp[*])
  |exact RetK.int (by unfold Sv;rw[if_neg (by assumption),if_pos (by omega)])
  |exact RetK.int (by unfold Sv;rw[if_neg (by assumption),if_neg (by omega)])
def orI:List Int->Int
 |[]=>0
 |a::r=>if a=0 then orI r else a
def T3(l:List Int):aP 94 [XZ l] (.int .i64 (orI l)):=by
 refine sC Ds func94 ?_;conv=>whnf
 repeat' ((refine iM fun _=>?_)<;>conv=>whnf)
 have n:(l.map (AV.int .i64)).length=l.length:=x8b _;refine lI (fun j:Nat=>⟨[(3,.j 0),(6,.p (XZ l)),(7,.p (.int .i64 (l.map (AV.int .i64)).length)),(8,.j j)],[]⟩) (fun j=>j<=l.length/\orI (l.drop j)=orI l) (fun j=>l.length-j) 0 ⟨x8i _,rfl⟩ ?_;rintro j ⟨m,h⟩;rcases x8o j l.length with i|i
 .rw [x9i i,orI]at h;conv=>whnf
  repeat' ((first|(refine gX ?_;intros)|((first|apply bD|apply bE)<;>intro _<;>try omega))<;>conv=>whnf)
  all_goals first
   |exact RetK.int (by rw[<-h,if_neg (by assumption)])
   |exact nX (j+1) ⟨by omega,by rw[<-h,if_pos (by assumption)]⟩
   |exact nX (j+1) ⟨by omega,by rw[<-h,if_pos (by simp_all)]⟩
 .rw [x9j i,orI]at h;conv=>whnf
  repeat' (apply bD<;>intro _<;>first|omega|conv=>whnf)
  exact RetK.int h
def GU(l:List S)(o:Int):Int:=match l with
 |[]=>o
 |t::_=>t.id
def ER(l:List S)(o:Int):aP 250 [.sl (l.map fun t=>.agg t.cells),.int .i64 o] (.int .i64 (GU l o)):=by
 refine sC RJ func250 ?_;conv=>whnf
 repeat' ((first|(refine iM fun _=>?_)|(apply bD<;>intro _<;>try omega))<;>conv=>whnf)
 .cases l with
  |nil=>simp at*
  | cons t r=>
    refine IdxK.at (k:=0) rfl rfl rfl ?_;exact RetK.int rfl
 .cases l with
  |nil=>exact RetK.int rfl
  |cons t r=>simp at*
def ZL(a b:Step):Bool:=decide (a.src=b.src)&&decide (a.dst=b.dst)
def K9(a b:Step):aP 207 [.agg a.cells,.agg b.cells] (.bool (ZL a b)):=by
 refine sC Da func207 ?_;conv=>whnf
 repeat' (apply bD<;>intro _<;>first|omega|conv=>whnf)
 all_goals first
  |exact RetK.bool (show(a.dst==b.dst)=ZL a b by unfold ZL;simp[*];rfl)
  |exact RetK.ff (by unfold ZL;simp[*])
def TF(a b:Step):Int:=orI [Sv (ZB a.src) (ZB b.src),Sv (ZB a.dst) (ZB b.dst),Sv a.kind b.kind]
def Tv(a b:Step):aP 205 [.agg a.cells,.agg b.cells] (.int .i64 (TF a b)):=by
 refine sC Dc func205 ?_;conv=>whnf
 repeat' ((first|refine cP (EL _) ?_|refine cP (Yv _ _) ?_|refine cP (T3 [Sv (ZB a.src) (ZB b.src),Sv (ZB a.dst) (ZB b.dst),Sv a.kind b.kind]) ?_|refine dA ?_|refine x9p rfl ?_|refine aD ?_|refine BsK.pureL rfl rfl ?_)<;>conv=>whnf)
 exact RetK.int rfl
end Go.Ab
