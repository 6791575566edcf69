/- The library's contracts at this seat's program, in plain words (printed by the kit's lay-plain.mjs). Conditions: none. -/
import Derived.Shelf.Sort.Plain
import Derived.Shelf.Slices.In.SortNone
import Derived.Shelf.Slices.CompactS
import Derived.Ground.Names2Prog
import Derived.Shelf.Slices.SearchI
import Derived.Shelf.Slices.Empties
import Derived.Shelf.Spec.SlicesInsert
import Derived.Shelf.Spec.SlicesInsertGrow
import Derived.Test.YtonbdgcjnecapaaGreatProg
import Derived.Test.YtonbdgcjnecapaaGreatInK6
import Derived.Test.YtonbdgcjnecapaaGreatInK7
import Derived.Test.YtonbdgcjnecapaaGreatInK9
set_option linter.all false
set_option maxRecDepth 100000
set_option maxHeartbeats 16000000
open List (filter_cons findIdx?_cons)
namespace Go.Proofs
open Go.Shelf
def Tryz.lays190_ren:Go.Shelf.Ren:=⟨fun|190=>161|125=>187|258=>220|128=>245|129=>246|302=>272|303=>273|304=>274|305=>275|306=>276|307=>277|308=>235|309=>278|310=>279|333=>307|329=>294|330=>295|334=>308|335=>309|336=>189|344=>334|n=>n,fun|31=>22|9=>9|3=>3|46=>242|0=>0|51=>280|53=>282|4=>4|183=>274|182=>273|131=>201|5=>5|218=>307|222=>311|228=>328|229=>30|n=>n,fun|n=>n⟩
def Vc:Go.Proofs.Lays.n190 Tryz.prog Tryz.lays190_ren:={
 mixed:=by kernel_rfl
 f125:=Tryz.func187.trans (congrArg some (by kernel_rfl))
 f128:=Tryz.func245.trans (congrArg some (by kernel_rfl))
 f129:=Tryz.func246.trans (congrArg some (by kernel_rfl))
 f190:=Tryz.func161.trans (congrArg some (by kernel_rfl))
 f258:=Tryz.func220.trans (congrArg some (by kernel_rfl))
 f302:=Tryz.func272.trans (congrArg some (by kernel_rfl))
 f303:=Tryz.func273.trans (congrArg some (by kernel_rfl))
 f304:=Tryz.func274.trans (congrArg some (by kernel_rfl))
 f305:=Tryz.func275.trans (congrArg some (by kernel_rfl))
 f306:=Tryz.func276.trans (congrArg some (by kernel_rfl))
 f307:=Tryz.func277.trans (congrArg some (by kernel_rfl))
 f308:=Tryz.func235.trans (congrArg some (by kernel_rfl))
 f309:=Tryz.func278.trans (congrArg some (by kernel_rfl))
 f310:=Tryz.func279.trans (congrArg some (by kernel_rfl))
 f329:=Tryz.func294.trans (congrArg some (by kernel_rfl))
 f330:=Tryz.func295.trans (congrArg some (by kernel_rfl))
 f333:=Tryz.func307.trans (congrArg some (by kernel_rfl))
 f334:=Tryz.func308.trans (congrArg some (by kernel_rfl))
 f335:=Tryz.func309.trans (congrArg some (by kernel_rfl))
 f336:=Tryz.func189.trans (congrArg some (by kernel_rfl))
 f344:=Tryz.func334.trans (congrArg some (by kernel_rfl))
 t0:=Tryz.underlying0
 a0:=Tryz.isAgg0
 z0:=Tryz.sizeOf0
 v0:=Tryz.zeroValue0
 t3:=Tryz.underlying3
 a3:=Tryz.isAgg3
 z3:=Tryz.sizeOf3
 v3:=Tryz.zeroValue3
 t4:=Tryz.underlying4
 a4:=Tryz.isAgg4
 z4:=Tryz.sizeOf4
 v4:=Tryz.zeroValue4
 t5:=Tryz.underlying5
 a5:=Tryz.isAgg5
 z5:=Tryz.sizeOf5
 v5:=Tryz.zeroValue5
 t9:=Tryz.underlying9
 a9:=Tryz.isAgg9
 z9:=Tryz.sizeOf9
 v9:=Tryz.zeroValue9
 t31:=Tryz.underlying22
 a31:=Tryz.isAgg22
 z31:=Tryz.sizeOf22
 v31:=Tryz.zeroValue22
 t46:=Tryz.underlying242
 a46:=Tryz.isAgg242
 z46:=Tryz.sizeOf242
 v46:=Tryz.zeroValue242
 t51:=Tryz.underlying280
 a51:=Tryz.isAgg280
 z51:=Tryz.sizeOf280
 v51:=Tryz.zeroValue280
 t53:=Tryz.underlying282
 a53:=Tryz.isAgg282
 z53:=Tryz.sizeOf282
 v53:=Tryz.zeroValue282
 t131:=Tryz.underlying201
 a131:=Tryz.isAgg201
 z131:=Tryz.sizeOf201
 v131:=Tryz.zeroValue201
 t182:=Tryz.underlying273
 a182:=Tryz.isAgg273
 z182:=Tryz.sizeOf273
 v182:=Tryz.zeroValue273
 t183:=Tryz.underlying274
 a183:=Tryz.isAgg274
 z183:=Tryz.sizeOf274
 v183:=Tryz.zeroValue274
 t218:=Tryz.underlying307
 a218:=Tryz.isAgg307
 z218:=Tryz.sizeOf307
 v218:=Tryz.zeroValue307
 t222:=Tryz.underlying311
 a222:=Tryz.isAgg311
 z222:=Tryz.sizeOf311
 v222:=Tryz.zeroValue311
 t228:=Tryz.underlying328
 a228:=Tryz.isAgg328
 z228:=Tryz.sizeOf328
 v228:=Tryz.zeroValue328
 t229:=Tryz.underlying30
 a229:=Tryz.isAgg30
 z229:=Tryz.sizeOf30
 v229:=Tryz.zeroValue30}
def Tryz.lays194_ren:Go.Shelf.Ren:=⟨fun|194=>162|n=>n,fun|31=>22|9=>9|3=>3|4=>4|0=>0|n=>n,fun|n=>n⟩
def Va:Go.Proofs.Lays.n194 Tryz.prog Tryz.lays194_ren:={
 mixed:=by kernel_rfl
 f194:=Tryz.func162.trans (congrArg some (by kernel_rfl))
 t0:=Tryz.underlying0
 a0:=Tryz.isAgg0
 z0:=Tryz.sizeOf0
 v0:=Tryz.zeroValue0
 t3:=Tryz.underlying3
 a3:=Tryz.isAgg3
 z3:=Tryz.sizeOf3
 v3:=Tryz.zeroValue3
 t4:=Tryz.underlying4
 a4:=Tryz.isAgg4
 z4:=Tryz.sizeOf4
 v4:=Tryz.zeroValue4
 t9:=Tryz.underlying9
 a9:=Tryz.isAgg9
 z9:=Tryz.sizeOf9
 v9:=Tryz.zeroValue9
 t31:=Tryz.underlying22
 a31:=Tryz.isAgg22
 z31:=Tryz.sizeOf22
 v31:=Tryz.zeroValue22}
def Tryz.laysB_ren:Go.Shelf.Ren:=⟨fun|25=>305|31=>330|32=>331|37=>188|n=>n,fun|22=>54|3=>3|4=>4|40=>242|0=>0|n=>n,fun|n=>n⟩
def H6:Go.Proofs.Lays2.n25 Tryz.prog Tryz.laysB_ren:={
 mixed:=by kernel_rfl
 f25:=Tryz.func305.trans (congrArg some (by kernel_rfl))
 f31:=Tryz.func330.trans (congrArg some (by kernel_rfl))
 f32:=Tryz.func331.trans (congrArg some (by kernel_rfl))
 f37:=Tryz.func188.trans (congrArg some (by kernel_rfl))
 t0:=Tryz.underlying0
 a0:=Tryz.isAgg0
 z0:=Tryz.sizeOf0
 v0:=Tryz.zeroValue0
 t3:=Tryz.underlying3
 a3:=Tryz.isAgg3
 z3:=Tryz.sizeOf3
 v3:=Tryz.zeroValue3
 t4:=Tryz.underlying4
 a4:=Tryz.isAgg4
 z4:=Tryz.sizeOf4
 v4:=Tryz.zeroValue4
 t22:=Tryz.underlying54
 a22:=Tryz.isAgg54
 z22:=Tryz.sizeOf54
 v22:=Tryz.zeroValue54
 t40:=Tryz.underlying242
 a40:=Tryz.isAgg242
 z40:=Tryz.sizeOf242
 v40:=Tryz.zeroValue242}
def Tryz.laysI_ren:Go.Shelf.Ren:=⟨fun|21=>306|27=>332|28=>333|35=>341|39=>343|n=>n,fun|22=>54|3=>3|4=>4|0=>0|n=>n,fun|n=>n⟩
def HQ:Go.Proofs.Lays2.n21 Tryz.prog Tryz.laysI_ren:={
 mixed:=by kernel_rfl
 f21:=Tryz.func306.trans (congrArg some (by kernel_rfl))
 f27:=Tryz.func332.trans (congrArg some (by kernel_rfl))
 f28:=Tryz.func333.trans (congrArg some (by kernel_rfl))
 f35:=Tryz.func341.trans (congrArg some (by kernel_rfl))
 f39:=Tryz.func343.trans (congrArg some (by kernel_rfl))
 t0:=Tryz.underlying0
 a0:=Tryz.isAgg0
 z0:=Tryz.sizeOf0
 v0:=Tryz.zeroValue0
 t3:=Tryz.underlying3
 a3:=Tryz.isAgg3
 z3:=Tryz.sizeOf3
 v3:=Tryz.zeroValue3
 t4:=Tryz.underlying4
 a4:=Tryz.isAgg4
 z4:=Tryz.sizeOf4
 v4:=Tryz.zeroValue4
 t22:=Tryz.underlying54
 a22:=Tryz.isAgg54
 z22:=Tryz.sizeOf54
 v22:=Tryz.zeroValue54
 i3:=by kernel_rfl}
end Go.Proofs
namespace Go.Ab
open Go.Proofs.Tryz
open Go.Proofs Go.Sort
variable {α:Type}{b clock j k:Nat}{e:TypeId}{es:Array MapEntry}{l:List Str}{p:Pg}{s:Str}{v:Value}{vs:Array Value}{w:World}{β:Lab}{σ:Mem}
def Bi{c c':Chunk}{w':World}{i:BInfo}(h:HRel σ β [(k,c)] w)(y:β k=some i)(q:Frm (fun b=>b=i.blk) w w')(u:c'.holds σ β w' k):HRel σ β [(k,c')] w'/\Later σ β [(k,c)] w σ β [(k,c')] w':=by
 have r:=h.apart k (by simp) i y;refine⟨⟨fun b cs m=>?_,fun j d n=>?_,by simp,fun j n i' o b m=>?_,fun j n B t _ _ _ _ _ _ _=>?_⟩,Mem.le_refl σ,⟨q.os,q.tape,q.output,q.drawn,q.size,fun b m A=>q.block b m fun x=>A ⟨k,by simp,i,y,.inl x.symm⟩⟩,
  fun b f g=>absurd f g,fun b ⟨j,n,i',o,m⟩=>.inl ⟨j,by simpa using n,i',o,m⟩,fun _ _ _=>rfl⟩
 .obtain ⟨e,a,z⟩:=h.mem b cs m;exact⟨e,a,(q.block b (x7p.1 z).1 fun x=>by rw[x,(r _ i.has_blk).1]at m;cases m).trans z⟩
 .simp at n;obtain⟨rfl,rfl⟩:=n;exact u
 .simp at n;subst n;rw[y]at o;cases o;exact⟨(r b m).1,x9o (r b m).2 q.size⟩
 .simp at n t;rw[n,t]
def YY(h:w.heap[b]?=some (.cells vs e (0,0)))(o:Nat):w.frozen? ⟨b,o,none⟩=false:=by
 simp[World.frozen?,h]
def FR(h:w.heap[b]?=some (.cells vs e (0,0)))(o:Nat):w.cell? ⟨b,o,none⟩=vs[o]?:=by
 simp[World.cell?,h]
def Vl[Inhabited α]{enc:α->Value}{n:Nat}{d:Array α}{os:Array Obj}(h:w.heap[b]?=some (.cells vs e (0,0)))(m:b<w.heap.size):
  Frm (fun x=>x=b) w (grow (putRow enc (Sort.ahead w n) b 0 d) os)/\(grow (putRow enc (Sort.ahead w n) b 0 d) os).heap[b]?=some (.cells (putCells enc 0 d vs) e (0,0)):=by
 have i:(grow (putRow enc (Sort.ahead w n) b 0 d) os).heap=w.heap.modify b (onCells (putCells enc 0 d))++os:=rfl;refine⟨⟨rfl,rfl,rfl,Nat.le_add_right _ _,?_,fun k o q=>?_⟩,?_⟩
 .rw [i];simp
 .rw [i,z0l (by simpa using o),z1w,if_neg (z1f q)]
 .rw [i,z0l (by simpa using m),z1w,if_pos rfl,h];rfl
def PL[Inhabited α]{enc:α->Value}{d:Array α}(m:d.size<=vs.size)(i:k<d.size):(putCells enc 0 d vs)[k]?=some (enc d[k]):=by
 unfold putCells;have h:k<vs.size:=by omega
 simp[h,i]
def SU(h:∀(m:Nat)(x:AV),(l.map AV.str)[m]?=some x->x.cells.length=1/\∀(j:Nat)(c:AV),x.cells[j]?=some c->∃u:Value,vs[m*1+j]?=some u/\Rep σ c u)(q:j<l.length):
  vs[j]?=some (encStr l[j])/\l[j].length<=maxLen:=by
 obtain⟨u,i,n⟩:=(h j (.str l[j]) (by simp[q])).2 0 (.str l[j]) rfl;cases n with
 |str _ o=>exact⟨by simpa using i,o⟩
def SY(h:∀j (n:j<l.length),vs[j]?=some (encStr l[j]))(t:∀s∈l,s.length<=maxLen):∀(m:Nat)(x:AV),(l.map AV.str)[m]?=some x->x.cells.length=1/\∀(j:Nat)(c:AV),x.cells[j]?=some c->∃u:Value,vs[m*1+j]?=some u/\Rep σ c u:=by
 intro m x i;rw[x6a]at i;cases q:l[m]?with
 |none=>rw[q]at i;cases i
 | some s=>
   rw[q]at i;cases i;obtain⟨r,rfl⟩:=x6n.1 q;refine⟨rfl,fun j c n=>?_⟩;have o:j=0:=by
    have:=(x6n.1 n).1;simpa[AV.cells]using this
   subst o;simp only[AV.cells,z1k,x9a]at n;subst n;exact⟨_,by simpa using h m r,.str _ (t _ (x6o r))⟩
def q9a{m:Array Value}{l:LV}(h:m.size=[l].length):∃v,m=#[v]:=⟨m[0]'(by simp at h;omega),by apply Array.ext;simpa using h;intro i o n;simp at n;subst n;rfl⟩
def Mf{n:Nat}{i:BInfo}(h:RepL σ β (.hd k 0 n) v)(r:β k=some i):v=.slice (some ⟨i.blk,0,none⟩) n i.cap:=by
 rcases h.hdI with⟨m,_⟩|⟨i',o,m,u,q,t⟩
 .rw [r]at m;cases m
 .rw [r]at m;cases m;rcases q with q|q
  .rw [t,q];simp
  .omega
def TL{n:Nat}(h:RepL σ β (.hd k 0 n) v)(m:β k=none):v=.slice none 0 0/\n=0:=by
 rcases h.hdI with⟨_,_,q,r⟩|⟨i',o,i,_⟩
 .exact ⟨r,q⟩
 .rw [m]at i;cases i
def YB(l:List Str):List Str:=l.mergeSort fun x y=>decide (x<=y)
def DG(l:List Str)(G:l.length<=1000000000):
  SpecH prog 161 [.hd 1000 0 l.length] [(1000,.own 9 1 (l.map .str))] (fun r H=>r=.p (.tup [])/\H=[(1000,.own 9 1 ((YB l).map .str))]):=by
 refine⟨call161,fun σ β w J U q y=>?_⟩;obtain⟨v,rfl⟩:=q9a U;have q:=q 0 _ rfl;simp only[z0o,x7g,x9y,Array.getD_eq_getD_getElem?]at q;have q:RepL σ β (.hd 1000 0 l.length) v:=by simpa using q
 have f:=y.chunks 1000 _ x6g;have h:(YB l).length=l.length:=by unfold YB;simp
 rcases f with⟨c,g⟩|⟨i,vs,z,C,A,E,F,K,L⟩
 .have B:l=[]:=by simpa using g
  subst B;obtain⟨rfl,_⟩:=TL q c;have t:=Any.slices_Sort_string_none Vc none 0 w;change Calls prog 161 _ _ _ at t;refine t.mono ?_;rintro e w' ⟨rfl,rfl⟩;exact⟨.p (.tup []),.tuple #[],σ,β,_,rfl,⟨rfl,rfl⟩,.p (.tup [] #[] (fun _=>undef) rfl (by simp) (by simp)),by simpa[YB]using y,by simpa[YB]using Later.refl _ _ _ _⟩
 .have D:=Mf q z;subst D;have x:=(y.apart 1000 (by simp) i z i.blk i.has_blk).2;have R:l.length<=vs.size:=by rw[E,Nat.mul_one];simpa using F
  have m:=fun j o=>SU (σ:=σ) (l:=l) L (j:=j) o;have t:=Any.slices_Sort_string Vc i.blk 0 i.cap l w (fun j o=>by
   have u:j<l.length:=by simpa using o
   refine⟨?_,YY A _⟩;rw[FR A,x8d,(m j u).1];simp[u]) x (by omega)
  change Calls prog 161 _ _ _ at t;refine t.mono ?_;rintro e w' ⟨rfl,n,os,rfl⟩;obtain⟨Q,O⟩:=Vl (enc:=encStr) (n:=n) (os:=os) (d:=(YB l).toArray) A x;obtain⟨a,M⟩:=Bi (c':=.own 9 1 ((YB l).map .str)) y z Q (.inr ⟨i,_,z,C,O,by simpa[putCells]using E,by simpa[h]using F,K,SY (fun j o=>by
   have:=PL (enc:=encStr) (d:=(YB l).toArray) (vs:=vs) (by simp[h];omega) (k:=j) (by simpa using o);simpa using this) fun s I=>by
    have:s∈l:=by unfold YB at I;simpa using I
    obtain⟨j,o,rfl⟩:=x8v.1 this;exact(m j o).2⟩)
  exact⟨.p (.tup []),.tuple #[],σ,β,_,rfl,⟨rfl,rfl⟩,.p (.tup [] #[] (fun _=>undef) rfl (by simp) (by simp)),a,M⟩
def Hk(l:List Str):(Go.Lib.compact l).length<=l.length:=by
 unfold Go.Lib.compact Go.Lib.compactUpTo;rw[x6j];exact x8s (z0z _ _) (by simp)
def Q0(h:s∈Go.Lib.compact l):s∈l:=by
 unfold Go.Lib.compact Go.Lib.compactUpTo at h;obtain⟨j,m,rfl⟩:=x6r.1 h;have:=(x7o.1 m).1;have i:j<l.length:=by simpa using this
 simp[i]
def Z9[Inhabited α]{enc:α->Value}{d:Array α}{o:Nat}:(putCells enc o d vs).size=vs.size:=by simp[putCells]
def GT(l:List Str)(K:l.length<=1000000000):
  SpecH prog 162 [.hd 1000 0 l.length] [(1000,.own 9 1 (l.map .str))] (fun r H=>r=.hd 1000 0 (Go.Lib.compact l).length/\H=[(1000,.own 9 1 ((Go.Lib.compact l).map .str))]):=by
 refine⟨call162,fun σ β w L V o a=>?_⟩;obtain⟨v,rfl⟩:=q9a V;have o:=o 0 _ rfl;have o:RepL σ β (.hd 1000 0 l.length) v:=by simpa using o
 have f:=a.chunks 1000 _ x6g;have R:=Hk l;rcases f with⟨t,g⟩|⟨i,vs,y,D,A,F,G,M,O⟩
 .have B:l=[]:=by simpa using g
  subst B;obtain⟨rfl,_⟩:=TL o t;have u:=Any.slices_Compact_string_empty Va none 0 w;change Calls prog 162 _ _ _ at u;refine u.mono ?_;rintro e w' ⟨rfl,rfl⟩;exact⟨.hd 1000 0 0,.slice none 0 0,σ,β,_,rfl,⟨rfl,rfl⟩,.hdn 1000 t,by simpa[Go.Lib.compact,Go.Lib.compactUpTo]using a,by simpa[Go.Lib.compact,Go.Lib.compactUpTo]using Later.refl _ _ _ _⟩
 .have E:=Mf o y;subst E;have C:=(a.apart 1000 (by simp) i y i.blk i.has_blk).2;have U:l.length<=vs.size:=by rw[F,Nat.mul_one];simpa using G
  have x:l.length<=i.cap:=by simpa using G
  have h:=fun j m=>SU (σ:=σ) (l:=l) O (j:=j) m;have u:=Any.slices_Compact_string Va i.blk 0 i.cap l w (fun j m=>by
   have z:j<l.length:=by simpa using m
   refine⟨?_,YY A _⟩;rw[FR A,x8d,(h j z).1];simp[z]) (by omega) x
  change Calls prog 162 _ _ _ at u;refine u.mono ?_;rintro e w' ⟨rfl,q,rfl⟩;obtain⟨J,I⟩:=Vl (enc:=encStr) (n:=q) (os:=#[]) (d:=(Go.Lib.compact l++List.replicate (l.length-(Go.Lib.compact l).length) []).toArray) A C;rw[grow_empty]at J I;obtain⟨c,Q⟩:=Bi (c':=.own 9 1 ((Go.Lib.compact l).map .str)) a y J (.inr ⟨i,_,y,D,I,by rw[Z9];exact F,by simp;omega,M,SY (fun j m=>by
   have:=PL (enc:=encStr) (d:=(Go.Lib.compact l++List.replicate (l.length-(Go.Lib.compact l).length) []).toArray) (vs:=vs) (by simp;omega) (k:=j) (by simp;omega);rw[this];simp[List.getElem_append_left m]) fun s Y=>by
    obtain⟨j,m,rfl⟩:=x8v.1 (Q0 Y);exact(h j m).2⟩)
  refine⟨.hd 1000 0 (Go.Lib.compact l).length,_,σ,β,_,rfl,⟨rfl,rfl⟩,?_,c,Q⟩;have:=RepL.hd (σ:=σ) (β:=β) 1000 0 (Go.Lib.compact l).length i 0 y (by omega) (.inl (by simp));simpa using this
def KP(q:(QA p).1=0){f:Pr}(o:f∈p.A){t:S}(r:t∈flL f.body):knownB p f (procsN p) t=true:=by
 obtain⟨_,_,h⟩:=WX q;have i:=z1p.1 h f o;unfold VY at i;cases m:(XF (V5 f)||(V5 f).any fun n=>p.B.any fun s=>n==s)<;>rw[m]at i
 .simp only[x7k,Option.map_eq_none_iff]at i;have:=z0v.1 i t r;simpa using this
 .cases i
def Vz(q:(QA p).1=0){f:Pr}(n:f∈p.A){t:S}(r:t∈flL f.body)(o:t.kind=4):t.D∈procsN p/\t.D≠mainS:=by
 have:=KP q n r;unfold knownB at this;simp only[x7y,z1q,x7s]at this;rcases this.2 with h|h
 .exact absurd o h
 .simp only[x9u,z0f,ne_eq]at h;refine⟨?_,h.1⟩;obtain⟨s,i,m⟩:=x8z.1 h.2;have:=eq_of_beq m;exact this▸i
def GW(f:Pr):List Str:=((flL f.body).filter fun t=>decide (t.kind=4)).map S.D
def YX(f:Pr):List Str:=Go.Lib.compact (YB (GW f))
def PC:s∈YB l↔s∈l:=by unfold YB;simp
def UM(l:List Str):(YB l).length=l.length:=by unfold YB;simp
def Hw(f:Pr):(YX f).length<=cntL f.body:=by
 have:=Hk (YB (GW f));rw[UM]at this;unfold YX;refine x8s this ?_;unfold GW;rw[x6j,<-Wh];exact z0z _ _
def BE(r:(QA p).1=0){f:Pr}(q:f∈p.A)(h:s∈YX f):s∈procsN p:=by
 have i:=PC.1 (Q0 h);obtain⟨t,m,rfl⟩:=x6r.1 i;obtain⟨n,o⟩:=x7o.1 m;exact(Vz r q n (by simpa using o)).1
def Z7{n:Str}(h:n∈procsN p):∃(k:Nat) (o:k<p.A.length),idxF (fun f=>f.name==n) p.A=k/\p.A.find? (fun f=>f.name==n)=some p.A[k]/\p.A[k].name=n:=by
 have q:p.A.any (fun f=>f.name==n)=true:=by
  obtain⟨f,i,m⟩:=x6r.1 h;exact x8z.2 ⟨f,i,by simp[m]⟩
 obtain⟨k,o,i,m,r⟩:=TS q;exact⟨k,o,i,r,by simpa using m⟩
def Tu(p:Pg)(n:Str)(k:Nat)(B:k<p.A.length)(d:idxF (fun f=>f.name==n) p.A=k)(c:cntP p.A<=1000):SpecP prog 269 [.ip (sheetOf p).cells,.str n] (fun r=>r=eStrs (YX p.A[k])):=by
 refine sB Dz func269 rfl call269 ?_;conv=>whnf
 repeat' ((first|(refine iM fun _=>?_)|refine cP (ZQ _ _) ?_|(refine CallK.pure (SA p (j:=k) (f:=p.A[k]'B) (by simp) c) (.cons (Sub.refl _) (.cons (Sub.int (by exact d)) .nil)) ?_;rintro _ rfl));conv=>whnf)
 have m:=BU (k:Nat) 0 (-1) 0 (QH p.A k) p.A[k].body;have x:(itL (k:Nat) 0 (-1) 0 (QH p.A k) p.A[k].body).length<=1000:=by
  have:=(QY p).2.2.2.2 k p.A[k] (by simp);rw[ZC];omega
 generalize y:itL (k:Nat) 0 (-1) 0 (QH p.A k) p.A[k].body=its at m x⊢;have g:=UQ its;have t:GW p.A[k]=(its.filter fun it=>decide (it.s.kind=4)).map fun it=>it.s.D:=by
  unfold GW;rw[<-m,List.filter_map,z1s];rfl
 refine LoopK.inv QW (fun i:Nat×List Str=>⟨[(5,.hd 0 0 i.2.length),(12,.p (UH its)),(13,.p (.int .i64 (its.map fun i=>AV.agg i.cells).length)),(14,.p (.int .i64 i.1))],[(0,.own 9 1 (i.2.map .str))]⟩)
  (fun i=>i.1<=its.length/\i.2.length<=i.1/\i.2++((its.drop i.1).filter fun it=>decide (it.s.kind=4)).map (fun it=>it.s.D)=GW p.A[k]) (fun i=>its.length-i.1) (0,[])
  (Le.mk [(0,.own 9 1 [])] (by simp[Chunk.new0];rfl) (by simp) (by simp) (.cons (.nil x6g) (.r (.r (.r .nil)))) (.new x6g .nil))
  ⟨x6t _,x7u _,by rw[t];rfl⟩ ?_
 rintro⟨j,h⟩ ⟨z,a,o⟩;simp only at z a o⊢;rcases x6c j its.length with u|u
 .conv=>whnf
  repeat' (first|((first|refine x6d rfl ?_|refine aD ?_|refine bP ?_|(refine iA fun _=>?_)|refine wI ?_|refine QP (by simp) (by simp;omega) ?_);conv=>whnf)|(apply bD<;>intro _<;>first|omega|conv=>whnf))
  .exact ⟨(j+1,h++[its[j].s.D]),⟨by simp only;omega,by simp;omega,by simp only;rw[<-o,QF u,filter_cons,if_pos (by simp[*])];simp⟩,by simp only;omega,Le.of_eq (by simp only[x6f,x6l];rfl)⟩
  .exact ⟨(j+1,h),⟨by simp only;omega,by simp only;omega,by simp only;rw[<-o,QF u,filter_cons,if_neg (by simp[*])]⟩,by simp only;omega,Le.of_eq rfl⟩
 .have q:h=GW p.A[k]:=by
   rw[x7v u]at o;simpa using o
  conv=>whnf
  repeat' (first|(apply bD<;>intro _<;>first|omega|conv=>whnf)|(refine CallK.heap [(1000,0)] 0 (by repeat' (first|exact x7h|refine x6i ?_ ?_|exact x6e _|exact x7q Sub.nils|exact x7q (Sub.tt rfl)|exact x7q (Sub.ff rfl)|exact x7q (Sub.int (by omega)))) (by refine x6y (j:=0) rfl rfl ?_ ?_;exact CSub.refl _;exact x7f) (DG h (by omega)) rfl rfl ?_;rintro l' H' ⟨rfl,rfl⟩;conv=>whnf)|(refine CallK.heap [(1000,0)] 0 (x6i (z1m (by rw[UM];rfl)) x7h) (by refine x6y (j:=0) rfl rfl ?_ ?_;exact CSub.refl _;exact x7f) (GT (YB h) (by rw[UM];omega)) rfl rfl ?_;rintro l' H' ⟨rfl,rfl⟩;conv=>whnf))
  exact⟨_,.hd rfl (by simp),by unfold YX;rw[<-q];rfl⟩
def VQ(out:List Str):List Str->List Str
 |[]=>out
 |n::r=>VQ (if(out.any fun s=>n==s)=true then out else out++[n]) r
def LA{out:List Str}(h:j<l.length):VQ out (l.drop j)=VQ (if(out.any fun s=>l[j]==s)=true then out else out++[l[j]]) (l.drop (j+1)):=by
 rw[QF h,VQ]
theorem HX{p:Pg}:∀(l:List Str){out:List Str},out.Nodup->(∀s∈out,s∈procsN p)->(∀s∈l,s∈procsN p)->(VQ out l).Nodup/\(∀s∈VQ out l,s∈procsN p)/\∃r,VQ out l=out++r
 |[],out,h1,h2,_=>⟨h1,h2,[],by rw[VQ];simp⟩
 | n::r,out,h1,h2,h3=>by
   rw[VQ];split
   .exact HX r h1 h2 fun s h=>h3 s (x6b _ h)
   .rename_i z;have i:n∉out:=fun y=>z (x8z.2 ⟨n,y,by simp⟩);obtain⟨o,q,c,t⟩:=HX (p:=p) r (out:=out++[n]) (x8b.2 ⟨h1,by simp,fun a u b m=>by simp at m;subst m;exact fun x=>i (x▸u)⟩) (fun s h=>by
     rcases x6s.1 h with h|h
     .exact h2 s h
     .simp at h;subst h;exact h3 _ x6g) fun s h=>h3 s (x6b _ h)
    exact⟨o,q,n::c,by rw[t];simp⟩
def Hv(p:Pg)(n:Str):List Str:=match p.A.find? (fun f=>f.name==n)with
 |some f=>YX f
 |none=>[]
def VP(p:Pg):Nat->Nat->List Str->List Str
 |0,_,out=>out
 | fuel+1,i,out=>match out[i]?with
   |some n=>VP p fuel (i+1) (VQ out (Hv p n))
   |none=>out
def C3(p:Pg)(n:Str):List Str:=YB (VP p (p.A.length+1) 0 [n])
theorem DH{α:Type}[BEq α][LawfulBEq α]:∀{l m:List α},l.Nodup->(∀s∈l,s∈m)->l.length<=m.length
 |[],m,_,_=>x6t _
 | a::r,m,h1,h2=>by
   have h:=h2 a x6g;have:=DH (l:=r) (m:=m.erase a) (x8k.1 h1).2 fun s i=>(List.mem_erase_of_ne fun n=>(x8k.1 h1).1 (by rw[<-n];exact i)).2 (h2 s (x6b _ i));rw[List.length_erase_of_mem h]at this;have:=z2w h;simp only[x7g];omega
def Nb{n:Str}(i:k<p.A.length)(h:p.A.find? (fun f=>f.name==n)=some p.A[k]):Hv p n=YX p.A[k]:=by
 unfold Hv;rw[h]
def Np(m:(QA p).1=0){n:Str}(h:s∈Hv p n):s∈procsN p:=by
 unfold Hv at h;split at h
 .rename_i f i;exact BE m (x9n i) h
 .cases h
def Io(p:Pg)(n:Str)(I:(QA p).1=0)(V:n∈procsN p):SpecP prog 214 [.ip (sheetOf p).cells,.str n] (fun r=>r=eStrs (C3 p n)):=by
 refine sB Rb func214 rfl call214 ?_;conv=>whnf
 obtain⟨U,hb,hns⟩:=WX I;obtain⟨hg,hpl,O⟩:=ZL U;have Z:(procsN p).length=p.A.length:=by simp[procsN]
 repeat' ((first|refine x6d rfl ?_|refine aD ?_|refine z1c (fun x hx=>by rcases x6p.1 hx with rfl;rfl) rfl ?_);conv=>whnf)
 refine LoopK.inv QW (fun i:Nat×List Str=>⟨[(0,.p (.ip (sheetOf p).cells)),(5,.hd 0 0 i.2.length),(6,.p (.int .i64 i.1))],[(0,.own 9 1 (i.2.map .str))]⟩)
  (fun i=>i.1<=i.2.length/\i.2.Nodup/\(∀s∈i.2,s∈procsN p)/\VP p (p.A.length+1-i.1) i.1 i.2=VP p (p.A.length+1) 0 [n]) (fun i=>p.A.length+1-i.1) (0,[n])
  (Le.of_eq rfl) ⟨x6t _,by simp,by simpa using V,rfl⟩ ?_
 rintro⟨j,out⟩ ⟨J,B,g,u⟩;simp only at J B g u⊢;have hol:=DH B g;rcases x6c j out.length with d|d
 .obtain ⟨k,G,F,E,Y⟩:=Z7 (g _ (x6o d));have D:=Hw p.A[k];have M:cntL p.A[k].body<=200:=by
   have:=(QY p).2.2.2.2 k p.A[k] (by simp);omega
  conv=>whnf
  repeat' (first|((first|(refine iM fun _=>?_)|refine x6d rfl ?_|refine x8q j rfl d ?_|refine x8p j 0 (.str out[j]) (by omega) (by simp[d]) ?_|(refine CallK.pure (Tu p out[j] k G F (by omega)) (.cons (Sub.refl _) (.cons (Sub.refl _) .nil)) ?_;rintro _ rfl));conv=>whnf)|(apply bD<;>intro _<;>first|omega|conv=>whnf))
  have f:∀s∈YX p.A[k],s∈procsN p:=fun s h=>BE I (x6o G) h;have C:=Nb G E;have t:VP p (p.A.length+1-j) j out=VP p (p.A.length+1-(j+1)) (j+1) (VQ out (YX p.A[k])):=by
   rw[show p.A.length+1-j=(p.A.length+1-(j+1))+1 by omega,VP,x6k d];simp only;rw[C]
  rw[t]at u;obtain⟨z,a,rr,c⟩:=HX (YX p.A[k]) B g f;generalize YX p.A[k]=cs at f u z a c D⊢;have H:(cs.map AV.str).length=cs.length:=x6j _;refine LoopK.inv QW (fun i:Nat×List Str=>⟨[(0,.p (.ip (sheetOf p).cells)),(5,.hd 0 0 i.2.length),(6,.p (.int .i64 j)),(22,.p (eStrs cs)),(23,.p (.int .i64 (cs.map AV.str).length)),(24,.p (.int .i64 i.1))],[(0,.own 9 1 (i.2.map .str))]⟩)
   (fun i=>i.1<=cs.length/\i.2.length<=out.length+i.1/\VQ i.2 (cs.drop i.1)=VQ out cs) (fun i=>cs.length-i.1) (0,out)
   (Le.of_eq rfl) ⟨x6t _,by simp,rfl⟩ ?_
  rintro⟨m,q⟩ ⟨K,L,y⟩;simp only at K L y⊢;rcases x6c m cs.length with o|o
  .conv=>whnf
   repeat' (first|((first|refine x6d rfl ?_|refine aD ?_|refine bP ?_|(refine iA fun _=>?_)|refine wI ?_|(refine QB (QU q (cs[m]'o)) (.cons (.hd rfl (by simp)) (.cons (.p (Sub.refl _)) .nil)) (by rintro _ rfl;rfl) ?_;rintro _ rfl)|refine QP (by simp) (by simp;omega) ?_);conv=>whnf)|(apply bD<;>intro _<;>first|omega|conv=>whnf)|(apply bN<;>intro _<;>conv=>whnf))
   .exact ⟨(m+1,q),⟨by simp only;omega,by simp only;omega,by simp only;rw[<-y,LA o,if_pos (by assumption)]⟩,by simp only;omega,Le.of_eq rfl⟩
   .exact ⟨(m+1,q++[cs[m]]),⟨by simp only;omega,by simp;omega,by simp only;rw[<-y,LA o,if_neg (by simp[*])]⟩,by simp only;omega,Le.of_eq (by simp only[x6f,x6l];rfl)⟩
  .rw [x7v o,VQ]at y;subst y;have Q:out.length<=(VQ out cs).length:=by rw[c];simp
   conv=>whnf
   repeat' (first|(refine wI ?_;conv=>whnf)|(apply bD<;>intro _<;>first|omega|conv=>whnf))
   exact⟨(j+1,VQ out cs),⟨by simp only;omega,z,a,u⟩,by simp only;omega,Le.of_eq rfl⟩
 .have R:j=out.length:=by omega
  have t:VP p (p.A.length+1-j) j out=out:=by
   rw[show p.A.length+1-j=(p.A.length-j)+1 by omega,VP,x7a (by omega)]
  rw[t]at u;conv=>whnf
  repeat' (first|(refine iM fun _=>?_;conv=>whnf)|(apply bD<;>intro _<;>first|omega|conv=>whnf)|(refine CallK.heap [(1000,0)] 0 (by repeat' (first|exact x7h|refine x6i ?_ ?_|exact x6e _|exact x7q Sub.nils|exact x7q (Sub.tt rfl)|exact x7q (Sub.ff rfl)|exact x7q (Sub.int (by omega)))) (by refine x6y (j:=0) rfl rfl ?_ ?_;exact CSub.refl _;exact x7f) (DG out (by omega)) rfl rfl ?_;rintro l' H' ⟨rfl,rfl⟩;conv=>whnf))
  exact⟨_,.hd rfl (by simp[UM]),by unfold C3;rw[<-u];rfl⟩
mutual
theorem q2b:∀(x:X)(out:List Str),(Gv x out).length<=out.length+wX x
 | .mk op n name kids,out=>by
   rw[Gv,wX];have:=Eu kids (if op=2/\(out.any fun s=>name==s)=false then out++[name]else out);split at this
   ·rename_i h;rw[if_pos h];simp at this;omega
   ·rename_i h;rw[if_neg h];omega
theorem Eu:∀(l:List X)(out:List Str),(HD l out).length<=out.length+wXs l
 |[],out=>by rw[HD];omega
 | x::r,out=>by
   have h1:=q2b x out;have h2:=Eu r (Gv x out);rw[HD,wXs];omega
end
def Su(x:X):(XW x).length<=wX x:=by
 unfold XW;have:=q2b x [];cases R5 x<;>simp at this⊢;exact this
theorem K7:∀l:List Arg,(l.flatMap YA).length<=Zb l
 |[]=>by simp
 | a::r=>by
   have h:=K7 r;have i:=Su a.x;simp only[x8n,x6f,Zb];have m:(YA a).length<=1+(XW a.x).length:=by
    unfold YA;cases a.ref<;>simp;omega
   omega
def Sv(t:S):(ZJ t).length<=wS t:=by
 have h:=K7 t.args;have i:=Su t.x;rw[H4];have m:(HL t).length<=1+(XW t.x).length:=by
  unfold HL;cases(decide (t.kind≠10) && !(t.name==[]):Bool)<;>simp;omega
 unfold ZJ;rw[x6f];omega
def Ag{b:Bool}(h:b=true):Sub (.bool b) .tt:=fun _ _ i=>by subst h;cases i;exact .tt
def Ty(p:Pg)(m:Fit p)(q:(QA p).1=0)(n:Str)(o:n∈procsN p):SpecP prog 213 [.agg p.cells,.str n] (fun r=>r=.tt):=by
 refine sB Dw func213 rfl call213 ?_;conv=>whnf
 repeat' (first|((first|refine cP (KB p m) ?_|refine cP (WI p.A 268 (.ip [.str n]) (fun f=>f.name==n) (Pz n)) ?_);conv=>whnf)|(apply bD<;>intro _<;>first|omega|conv=>whnf))
 have:p.A.any (fun f=>f.name==n)=true:=by
  obtain⟨f,h,i⟩:=x6r.1 o;exact x8z.2 ⟨f,h,by simp[i]⟩
 exact⟨_,.p (Ag this),rfl⟩
def Gr(p:Pg)(t:S):List Str:=(ZJ t).filter fun v=>p.B.any fun s=>v==s
def Wn(p:Pg)(n:Str):List Str:=match p.A.find? (fun f=>f.name==n)with
 |some f=>(flL f.body).flatMap (Gr p)
 |none=>[]
def YK(p:Pg)(n:Str):List Str:=(C3 p n).flatMap (Wn p)
def YJ(p:Pg)(n:Str):List Str:=Go.Lib.compact (YB (YK p n))
theorem Fg{p:Pg}(m:(QA p).1=0):∀(fuel i:Nat)(out:List Str),out.Nodup->(∀s∈out,s∈procsN p)->(VP p fuel i out).Nodup/\∀s∈VP p fuel i out,s∈procsN p
 |0,i,out,h1,h2=>by rw[VP];exact⟨h1,h2⟩
 | fuel+1,i,out,h1,h2=>by
   rw[VP];split
   .obtain ⟨n,o,_⟩:=HX (Hv p _) h1 h2 fun s h=>Np m h;exact Fg m fuel (i+1) _ n o
   .exact ⟨h1,h2⟩
def Tc(q:(QA p).1=0){n:Str}(o:n∈procsN p):(C3 p n).length<=p.A.length/\∀s∈C3 p n,s∈procsN p:=by
 obtain⟨m,i⟩:=Fg q (p.A.length+1) 0 [n] (by simp) (by simpa using o);unfold C3;rw[UM];refine⟨?_,fun s h=>i s (PC.1 h)⟩;have:=DH m i;simpa[procsN]using this
def YS{β:Type}{f:α->List β}{l:List α}(h:j<l.length):(l.drop j).flatMap f=f l[j]++(l.drop (j+1)).flatMap f:=by
 rw[QF h,x8n]
def Px(p:Pg)(hf:Fit p)(G:(QA p).1=0)(n:Str)(V:n∈procsN p):SpecP prog 156 [.agg p.cells,.str n] (fun r=>r=eStrs (YJ p n)):=by
 refine sB Ym func156 rfl call156 ?_;conv=>whnf
 obtain⟨F,hb,hns⟩:=WX G;obtain⟨hg,hpl,hcn⟩:=ZL F;repeat' ((first|(refine iM fun _=>?_)|refine cP (Ty p hf G n V) ?_|refine cP (Io p n G V) ?_|(refine CallK.pure (FE p (by omega) (by omega)) (.cons (Sub.refl _) .nil) ?_;rintro _ rfl));conv=>whnf)
 obtain⟨I,g⟩:=Tc G V;have L:YJ p n=Go.Lib.compact (YB (YK p n)):=rfl;have C:YK p n=(C3 p n).flatMap (Wn p):=rfl;rw[L];generalize C3 p n=ns at I g C⊢;have hnl:(ns.map AV.str).length=ns.length:=x6j _;refine LoopK.inv QW (fun i:Nat×List Str=>⟨[(2,.p (.ip p.cells)),(5,.p (.ip (sheetOf p).cells)),(6,.hd 0 0 i.2.length),(21,.p (eStrs ns)),(22,.p (.int .i64 (ns.map AV.str).length)),(23,.p (.int .i64 i.1))],[(0,.own 9 1 (i.2.map .str))]⟩)
  (fun i=>i.1<=ns.length/\i.2.length<=4200000*i.1/\i.2++(ns.drop i.1).flatMap (Wn p)=YK p n) (fun i=>ns.length-i.1) (0,[])
  (Le.mk [(0,.own 9 1 [])] (by simp[Chunk.new0];rfl) (by simp) (by simp) (.r (.r (.cons (.nil x6g) (.r (.r (.r .nil)))))) (.new x6g .nil))
  ⟨x6t _,by simp,by rw[C];rfl⟩ ?_
 rintro⟨j,o⟩ ⟨h2,h3,a⟩;simp only at h2 h3 a⊢;rcases x6c j ns.length with E|E;rotate_left 1
 .have d:o=YK p n:=by
   rw[x7v E]at a;simpa using a
  rw[<-d];conv=>whnf
  repeat' (first|(apply bD<;>intro _<;>first|omega|conv=>whnf)|(refine CallK.heap [(1000,0)] 0 (by repeat' (first|exact x7h|refine x6i ?_ ?_|exact x6e _|exact x7q Sub.nils|exact x7q (Sub.tt rfl)|exact x7q (Sub.ff rfl)|exact x7q (Sub.int (by omega)))) (by refine x6y (j:=0) rfl rfl ?_ ?_;exact CSub.refl _;exact x7f) (DG o (by omega)) rfl rfl ?_;rintro l' H' ⟨rfl,rfl⟩;conv=>whnf)|(refine CallK.heap [(1000,0)] 0 (x6i (z1m (by rw[UM];rfl)) x7h) (by refine x6y (j:=0) rfl rfl ?_ ?_;exact CSub.refl _;exact x7f) (GT (YB o) (by rw[UM];omega)) rfl rfl ?_;rintro l' H' ⟨rfl,rfl⟩;conv=>whnf))
  exact⟨_,.hd rfl (by simp),rfl⟩
 obtain⟨k,hk,R,J,hnk⟩:=Z7 (g _ (x6o E));have M:Wn p ns[j]=(flL p.A[k].body).flatMap (Gr p):=by unfold Wn;rw[J]
 rw[YS E,M]at a;have K:=hf.pr (x6o hk);have D:p.A[k]?=some p.A[k]:=by simp
 conv=>whnf
 repeat' (first|((first|(refine iM fun _=>?_)|refine cP (ZQ _ _) ?_|(refine iA fun _=>?_)|(refine CallK.pure (SA p (j:=k) (f:=p.A[k]'hk) D (by omega)) (.cons (Sub.refl _) (.cons (Sub.int (by exact R)) .nil)) ?_;rintro _ rfl));conv=>whnf)|(apply bD<;>intro _<;>first|omega|conv=>whnf))
 have z:=BU (k:Nat) 0 (-1) 0 (QH p.A k) p.A[k].body;have x:∀m (F:m<(itL (k:Nat) 0 (-1) 0 (QH p.A k) p.A[k].body).length),wS (itL (k:Nat) 0 (-1) 0 (QH p.A k) p.A[k].body)[m].s<=21000:=fun m F=>by
  have U:(itL (k:Nat) 0 (-1) 0 (QH p.A k) p.A[k].body)[m].s∈flL p.A[k].body:=by
   rw[<-z];exact x6r.2 ⟨_,x6o F,rfl⟩
  have:=Ub _ _ U;unfold wPr at K;omega
 have Q:(itL (k:Nat) 0 (-1) 0 (QH p.A k) p.A[k].body).length<=200:=by
  have:=(QY p).2.2.2.2 k p.A[k] D;rw[ZC];omega
 rw[<-z]at a;generalize hits:itL (k:Nat) 0 (-1) 0 (QH p.A k) p.A[k].body=its at x Q a⊢;have hil:=UQ its;refine LoopK.inv QW (fun i:Nat×List Str=>⟨[(2,.p (.ip p.cells)),(5,.p (.ip (sheetOf p).cells)),(6,.hd 0 0 i.2.length),(21,.p (eStrs ns)),(22,.p (.int .i64 (ns.map AV.str).length)),(23,.p (.int .i64 j)),(31,.p (UH its)),(32,.p (.int .i64 (its.map fun i=>AV.agg i.cells).length)),(33,.p (.int .i64 i.1))],[(0,.own 9 1 (i.2.map .str))]⟩)
  (fun i=>i.1<=its.length/\i.2.length<=o.length+21000*i.1/\i.2++(((its.drop i.1).map Item.s).flatMap (Gr p)++(ns.drop (j+1)).flatMap (Wn p))=YK p n) (fun i=>its.length-i.1) (0,o)
  (Le.of_eq rfl) ⟨x6t _,by simp,a⟩ ?_
 rintro⟨m,t⟩ ⟨h6,h7,c⟩;simp only at h6 h7 c⊢;rcases x6c m its.length with y|y;rotate_left 1
 .rw [x7v y]at c;conv=>whnf
  repeat' (first|(refine wI ?_;conv=>whnf)|(apply bD<;>intro _<;>first|omega|conv=>whnf))
  exact⟨(j+1,t),⟨by simp only;omega,by simp only;omega,by simpa using c⟩,by simp only;omega,Le.of_eq rfl⟩
 have hw:=x m y;have Y:its[m].s.args.length<=21000:=by
  have:=H4 its[m].s;have:=YO its[m].s.args;omega
 have Z:=Sv its[m].s;rw[x7t y,x7l,x8n,x7n]at c;have O:Gr p its[m].s=(ZJ its[m].s).filter fun v=>p.B.any fun s=>v==s:=rfl;conv=>whnf
 repeat' (first|((first|(refine iM fun _=>?_)|refine cP (Hp _ Y) ?_|refine x6d rfl ?_|(refine iA fun _=>?_));conv=>whnf)|(apply bD<;>intro _<;>first|omega|conv=>whnf))
 rw[O]at c;generalize ZJ its[m].s=vs at Z c⊢;have hvl:(vs.map AV.str).length=vs.length:=x6j _;refine LoopK.inv QW (fun i:Nat×List Str=>⟨[(2,.p (.ip p.cells)),(5,.p (.ip (sheetOf p).cells)),(6,.hd 0 0 i.2.length),(21,.p (eStrs ns)),(22,.p (.int .i64 (ns.map AV.str).length)),(23,.p (.int .i64 j)),(31,.p (UH its)),(32,.p (.int .i64 (its.map fun i=>AV.agg i.cells).length)),(33,.p (.int .i64 m)),(39,.p (eStrs vs)),(40,.p (.int .i64 (vs.map AV.str).length)),(41,.p (.int .i64 i.1))],[(0,.own 9 1 (i.2.map .str))]⟩)
  (fun i=>i.1<=vs.length/\i.2.length<=t.length+i.1/\i.2++((vs.drop i.1).filter (fun v=>p.B.any fun s=>v==s)++(((its.drop (m+1)).map Item.s).flatMap (Gr p)++(ns.drop (j+1)).flatMap (Wn p)))=YK p n) (fun i=>vs.length-i.1) (0,t)
  (Le.of_eq rfl) ⟨x6t _,by simp,c⟩ ?_
 rintro⟨q,u⟩ ⟨h9,H,h⟩;simp only at h9 H h⊢;rcases x6c q vs.length with hq|hq
 .rw [x7t hq,filter_cons]at h;conv=>whnf
  repeat' (first|((first|refine cP (QU _ _) ?_|refine x6d rfl ?_|refine aD ?_|refine bP ?_|(refine iA fun _=>?_)|refine wI ?_|refine QP (by simp) (by simp;omega) ?_);conv=>whnf)|(apply bD<;>intro _<;>first|omega|conv=>whnf)|(apply bB<;>intro _<;>conv=>whnf))
  .exact ⟨(q+1,u++[vs[q]]),⟨by simp only;omega,by simp;omega,by rw[if_pos (by assumption)]at h;simpa using h⟩,by simp only;omega,Le.of_eq (by simp only[x6f,x6l];rfl)⟩
  .exact ⟨(q+1,u),⟨by simp only;omega,by simp only;omega,by rw[if_neg (by simp[*])]at h;exact h⟩,by simp only;omega,Le.of_eq rfl⟩
 .rw [x7v hq]at h;conv=>whnf
  repeat' (first|(refine wI ?_;conv=>whnf)|(apply bD<;>intro _<;>first|omega|conv=>whnf))
  exact⟨(m+1,u),⟨by simp only;omega,by simp only;omega,by simpa using h⟩,by simp only;omega,Le.of_eq rfl⟩
section
variable {P:Program}{T:Tab}{N:Nat}
def Qj(s:List UInt8):Value:=.string ⟨s.toArray⟩
def q5y(l:List (List UInt8×AV)):XC:=.map (l.map fun x=>(Qj x.1,x.2))
def R7{α:Type}(l:List (List UInt8×α))(k:List UInt8)(v:α):List (List UInt8×α):=
 match l with
 |[]=>[(k,v)]
 |x::r=>if k=x.1 then(x.1,v)::r else x::R7 r k v
def q8m{α:Type}(l:List (List UInt8×α))(k:List UInt8):Option α:=(l.find? fun x=>decide (k=x.1)).map (·.2)
def Rt(h:J6 es clock){e:MapEntry}(o:e.born=clock):J6 (es.push e) (clock+1):=by
 refine⟨?_,fun x i=>?_⟩
 .rw [Array.toList_push,x6l,x8b];refine⟨h.1,by simp,fun a m b n=>?_⟩;obtain⟨x,i,rfl⟩:=x6r.1 m;have:=h.2 x i;simp only[x7l,z1u,x6p]at n;omega
 .rw [Array.toList_push]at i;rcases x6s.1 i with i|i
  .have:=h.2 x i;omega
  .rw [x6p.1 i,o];omega
theorem Fx{α β:Type}(g:α->β)(f:α->α)(h:∀x,g (f x)=g x):∀(l:List α)(j:Nat),(l.modify j f).map g=l.map g
 |[],j=>by simp
 |x::r,0=>by simp[h]
 |x::r,j+1=>by simp[Fx g f h r j]
def Dt(h:J6 es clock)(j:Nat){f:MapEntry->MapEntry}(o:∀e,(f e).born=e.born):J6 (es.modify j f) clock:=by
 have e:(es.modify j f).toList.map (·.born)=es.toList.map (·.born):=by
  rw[Array.toList_modify];exact Fx _ f o _ j
 refine⟨by rw[e];exact h.1,fun x q=>?_⟩;have i:x.born∈(es.modify j f).toList.map (·.born):=x6r.2 ⟨x,q,rfl⟩;rw[e]at i;obtain⟨y,m,n⟩:=x6r.1 i;rw[<-n];exact h.2 y m
theorem OpK.makeMap{s:St}{o:Oper}{K:St->Prop}{t:TypeId}(q:o.op=.makeMap t none)(h:HF 60 0 s fun k=>setD N s.sl o.dst (.ext k .map) fun sl=>K ⟨sl,(k,.ext (q5y []))::s.H⟩):OpK P N s o K:=by
 refine⟨fun σ β a w f Q=>?_⟩;obtain⟨k,z,h⟩:=YU h;have i:(Chunk.ext (q5y [])).holds σ (β.set k (some ⟨w.heap.size,0,0,[],x6t _⟩)) (w.alloc (.map #[] 0)) k:=
  ⟨⟨w.heap.size,0,0,[],x6t _⟩,#[],0,by simp[Lab.set],heap_alloc_new w _,⟨.nil,fun x g=>by cases g⟩,rfl,by simp⟩
 obtain⟨r,c⟩:=f.new z rfl rfl i;obtain⟨sl,y,m⟩:=r.setD (v:=.ext k .map) (u:=.map (some w.heap.size)) (.ext k .map ⟨w.heap.size,0,0,[],x6t _⟩ _ (by simp[Lab.set]) rfl) h;exact VR (w':=w.alloc (.map #[] 0)) (by simp[execOp,q,Instr.makeMap]) ⟨σ,_,_,y,m,c⟩
def Nd(a b:List UInt8):((⟨a.toArray⟩:ByteArray)==⟨b.toArray⟩)=decide (a=b):=by
 show(a.toArray==b.toArray)=decide (a=b);by_cases h:a=b
 .subst h;simp
 .simp [h]
theorem Ju{α:Type}(k:List UInt8):∀(es:List MapEntry)(l:List (List UInt8×α))(i:Nat),es.map (·.key)=l.map (fun x=>Qj x.1)->
  Instr.findNow .string (Qj k) es i=some (match l.findIdx? fun x=>decide (k=x.1)with
   |some j=>some (i+j,(es[j]?.map (·.val)).getD undef)
   |none=>none)
 |[],[],_,_=>rfl
 |[],_::_,_,h=>by cases h
 |_::_,[],_,h=>by cases h
 | e::es,x::l,i,h=>by
   simp only[x7l,List.cons.injEq]at h;have n:Instr.sameNow .string (Qj k) e.key=some (decide (k=x.1)):=by
    rw[h.1];show some ((⟨k.toArray⟩:ByteArray)==⟨x.1.toArray⟩)=_;rw[Nd]
   rw[Instr.findNow,n,findIdx?_cons];by_cases m:k=x.1
   .simp [m]
   .simp only[m,decide_false];rw[Ju k es l (i+1) h.2];cases l.findIdx? fun x=>decide (k=x.1)with
    |none=>rfl
    |some j=>simp;omega
def U2{l:List (List UInt8×AV)}(n:es.size=(l.map fun x=>(Qj x.1,x.2)).length)(o:∀(m:Nat)(x:Value×AV),(l.map fun x=>(Qj x.1,x.2))[m]?=some x->∃e:MapEntry,es[m]?=some e/\e.key=x.1/\Rep σ x.2 e.val):
  es.toList.map (·.key)=l.map (fun x=>Qj x.1):=by
 apply z1y;intro m;rw[x6a,x6a];cases i:l[m]?with
 | none=>
   have:es.toList[m]?=none:=by
    rw[List.getElem?_eq_none_iff]at i⊢;simp at n⊢;omega
   rw[this];rfl
 | some x=>
   obtain⟨e,q,r,_⟩:=o m (Qj x.1,x.2) (by simp[i]);have h:es.toList[m]?=some e:=by simpa using q
   rw[h];simp[r]
def Wu{P:Program}{t:TypeId}(h:P.underlying t=some .string)(b:Bool)(k:List UInt8)(w:World):(Instr.checkKey b 10000 t (Qj k)).run P w=.ok () w:=by
 have e:Instr.checkKey b 10000 t (Qj k)=Instr.checkKey b (9999+1) t (Qj k):=rfl;rw[e,Instr.checkKey,Sem.run_bind,run_underlying h,Result.andThen_ok];rfl
def q3w{l:List UInt8}(h:RepL σ β (.p (.str l)) v):v=Qj l:=h.strV.1
def Wp{P:Program}{r:Nat}(h:w.heap[r]?=some (.map es clock)):(getObj r).run P w=.ok (.map es clock) w:=by simp[getObj,Sem.run,h]
def Ft{P:Program}{r:Nat}(o:Obj)(h:w.heap[r]?=some (.map es clock)):(setObj r o).run P w=.ok () {w with heap:=w.heap.setIfInBounds r o}:=by simp[setObj,Sem.run,h]
theorem OpK.lookup(hT:TabOK P T){s:St}{o:Oper}{K:St->Prop}{t:TypeId}{x ix:Operand}(hop:o.op=.lookup t x ix false){k:Nat}(hx:QR s.sl x=.ext k .map){l:List (List UInt8×AV)}(hg:getH s.H k=some (.ext (q5y l))){c:List UInt8}(hk:QR s.sl ix=.p (.str c)){i ik:TyI}{kt et:TypeId}(ht:T.get t=some i)(hd:i.desc=.map kt et)(htk:T.get kt=some ik)(M:ik.desc=.string){v:AV}(B:q8m l c=some v)(h:setD N s.sl o.dst (.p v) fun sl=>K ⟨sl,s.H⟩):OpK P N s o K:=by
 refine⟨fun σ β a w C Q=>?_⟩;have z:=QV C.G x;have f:=QV C.G ix;rw[hx]at z;rw[hk]at f;have Y:=q3w f;generalize hxe:a.eval x=xv at z;cases z with
 | ext _ _ bi _ J L=>
   obtain rfl:xv=.map (some bi.blk):=L;obtain⟨bi',es,clock,q,hh,hbo,h1,h2⟩:=C.heap.chunks k _ (QD hg);rw[J]at q;cases q;have r:=U2 h1 h2;have hu:=hT.of ht;have u:=hT.of htk;rw[hd]at hu;rw[M]at u;obtain⟨j,hj,V⟩ : ∃j,(l.findIdx? fun x=>decide (c=x.1))=some j/\∃x,l[j]?=some x/\x.2=v:=by
    unfold q8m at B;cases O:l.find? fun x=>decide (c=x.1)with
    |none=>rw[O]at B;cases B
    | some x=>
      rw[O]at B;cases B;obtain⟨D,j,g,F,I⟩:=List.find?_eq_some_iff_getElem.1 O;refine⟨j,?_,x,by rw[x6k g,F],rfl⟩;rw[List.findIdx?_eq_some_iff_getElem];exact⟨g,by rw[F];exact D,fun i hi=>by simpa using I i hi⟩
   obtain⟨y,U,rfl⟩:=V;obtain⟨e,D,F,I⟩:=h2 j (Qj y.1,y.2) (by simp[U]);have m:=Ju c es.toList l 0 r;rw[hj]at m;have E:es.toList[j]?=some e:=by simpa using D
   simp only[E,x9m,x9h]at m;have A:(execOp a.eval o).run P w=.ok (.value e.val) w:=by
    have R:(Instr.findKey kt (Qj c) es.toList).run P w=.ok (some (0+j,e.val)) w:=by
     unfold Instr.findKey;rw[Sem.run_bind,run_underlying u,Result.andThen_ok,m];rfl
    have Z:(Instr.lookup t (.map (some bi.blk)) (Qj c) false).run P w=.ok e.val w:=by
     unfold Instr.lookup;rw[Sem.run_bind,run_underlying hu,Result.andThen_ok];simp only[Sem.run_bind,Wp hh,Result.andThen_ok,Sem.run_pure,Wu u,R];rfl
    simp only[execOp,hop,hxe,Y,Sem.run_bind,Z,Result.andThen_ok];rfl
   obtain⟨sl,hK,hr'⟩:=C.setD (.p I) h;exact VR A ⟨σ,β,_,hK,hr',Later.refl _ _ _ _⟩
def Lr{l:List (List UInt8×α)}{k:List UInt8}{v:α}(h:(l.findIdx? fun x=>decide (k=x.1))=none):R7 l k v=l++[(k,v)]:=by
 induction l with
 |nil=>rfl
 | cons x r m=>
   rw[findIdx?_cons]at h;by_cases i:k=x.1
   .simp [i]at h
   .simp [i]at h;rw[R7,if_neg i,m (by simpa using h)];rfl
def IJ{l:List (List UInt8×α)}{k:List UInt8}{v:α}(h:(l.findIdx? fun x=>decide (k=x.1))=some j):∃x,l[j]?=some x/\R7 l k v=l.set j (x.1,v):=by
 induction l generalizing j with
 |nil=>cases h
 | cons x r q=>
   rw[findIdx?_cons]at h;by_cases i:k=x.1
   .simp [i]at h;subst h;exact⟨x,rfl,by rw[R7,if_pos i];rfl⟩
   .simp [i]at h;obtain⟨t,m,rfl⟩:=h;obtain⟨y,n,o⟩:=q m;exact⟨y,by simpa using n,by rw[R7,if_neg i,o];rfl⟩
theorem OpK.mapUpdate(hT:TabOK P T){s:St}{o:Oper}{K:St->Prop}{t:TypeId}{x ix vx:Operand}(hop:o.op=.mapUpdate t x ix vx)(E:o.dst=none){k:Nat}(hx:QR s.sl x=.ext k .map){l:List (List UInt8×AV)}(hg:getH s.H k=some (.ext (q5y l))){f:List UInt8}(hk:QR s.sl ix=.p (.str f)){v:AV}(hvx:QR s.sl vx=.p v){i ik:TyI}{kt et:TypeId}(ht:T.get t=some i)(hd:i.desc=.map kt et)(htk:T.get kt=some ik)(hdk:ik.desc=.string)(h:P2 s.H k (.ext (q5y (R7 l f v))) fun H=>K ⟨s.sl,H⟩):OpK P N s o K:=by
 refine⟨fun σ β a w A Q=>?_⟩;have hx':=QV A.G x;have hk':=QV A.G ix;have hv':=QV A.G vx;rw[hx]at hx';rw[hk]at hk';rw[hvx]at hv';have hkv:=q3w hk';generalize hxe:a.eval x=xv at hx';generalize hve:a.eval vx=vv at hv';cases hv' with
 |p hvr=>
 cases hx' with
 | ext _ _ B _ D hd'=>
   obtain rfl:xv=.map (some B.blk):=hd';obtain⟨bi',es,clock,M,hh,hbo,O,h2⟩:=A.heap.chunks k _ (QD hg);rw[D]at M;cases M;have hkeys:=U2 O h2;have hu:=hT.of ht;have I:=hT.of htk;rw[hd]at hu;rw[hdk]at I;have u:=Ju f es.toList l 0 hkeys;have F:=XY hg;have hlt:=(A.heap.apart k F B D B.blk B.has_blk).2;obtain⟨es',q,hrun,hbo',hsz,hent⟩ : ∃es' q,(Instr.mapUpdate t (.map (some B.blk)) (Qj f) vv).run P w=.ok () {w with heap:=w.heap.setIfInBounds B.blk (.map es' q)}/\J6 es' q/\es'.size=(R7 l f v).length/\
     ∀(m:Nat)(x:Value×AV),((R7 l f v).map fun x=>(Qj x.1,x.2))[m]?=some x->∃e:MapEntry,es'[m]?=some e/\e.key=x.1/\Rep σ x.2 e.val:=by
    cases g:l.findIdx? fun x=>decide (f=x.1)with
    | none=>
      rw[g]at u;refine⟨es.push {key:=Qj f,val:=vv,born:=clock},clock+1,?_,Rt hbo rfl,?_,fun m y L=>?_⟩
      .have V:(Instr.findKey kt (Qj f) es.toList).run P w=.ok none w:=by
        unfold Instr.findKey;rw[Sem.run_bind,run_underlying I,Result.andThen_ok,u];rfl
       unfold Instr.mapUpdate;rw[Sem.run_bind,run_underlying hu,Result.andThen_ok];simp only[Sem.run_bind,Wp hh,Result.andThen_ok,Sem.run_pure,Wu I,V,Ft _ hh]
      .rw [Lr g];simpa using O
      .rw [Lr g]at L;simp only[x6j]at O;rw[x6l,z0n]at L;split at L
       .rename_i J;obtain⟨e,C,h4⟩:=h2 m y L;simp only[x6j]at J;exact⟨e,by rw[Array.getElem?_push,if_neg (by omega)];exact C,h4⟩
       .rename_i J;simp only[x6j]at J L;have hm0:m-l.length=0:=by
         have:=(x6n.1 L).1;simp at this;omega
        rw[hm0]at L;simp at L;subst L;exact⟨{key:=Qj f,val:=vv,born:=clock},by rw[Array.getElem?_push,if_pos (by omega)],rfl,hvr⟩
    | some j=>
      rw[g]at u;obtain⟨y,hy1,hy2⟩:=IJ (v:=v) g;obtain⟨e,C,h4,h5⟩:=h2 j (Qj y.1,y.2) (by simp[hy1]);have hky:f=y.1:=by
       obtain⟨hlt,R,_⟩:=List.findIdx?_eq_some_iff_getElem.1 g;rw[x6k hlt]at hy1;cases hy1;simpa using R
      have h3':es.toList[j]?=some e:=by simpa using C
      have hjlt:j<es.size:=(x7p.1 C).1;simp only[h3',x9m,x9h,x8d]at u;have hek:e.key=Qj f:=by rw[h4,hky]
      refine⟨es.modify j fun e=>{e with key:=Qj f,val:=vv},clock,?_,Dt hbo j fun _=>rfl,?_,fun m z hz=>?_⟩
      .have V:(Instr.findKey kt (Qj f) es.toList).run P w=.ok (some (j,e.val)) w:=by
        unfold Instr.findKey;rw[Sem.run_bind,run_underlying I,Result.andThen_ok,u];rfl
       have hkt:(Instr.keyThatStays (((es[j]?).map (·.key)).getD (Qj f)) (Qj f)).run P w=.ok (Qj f) w:=by
        rw[C];simp only[x9m,x9h,hek];unfold Instr.keyThatStays;have:Instr.sameBits 10000 (Qj f) (Qj f)=true:=by
         unfold Qj;show((⟨f.toArray⟩:ByteArray)==⟨f.toArray⟩)=true;rw[Nd];simp
        rw[if_pos this];rfl
       unfold Instr.mapUpdate;rw[Sem.run_bind,run_underlying hu,Result.andThen_ok];simp only[Sem.run_bind,Wp hh,Result.andThen_ok,Sem.run_pure,Wu I,V,hkt,Ft _ hh]
      .rw [hy2];simpa using O
      .rw [hy2,x9w]at hz;by_cases J:m=j
       .subst J;rw[z0u (by simp at O⊢;omega)]at hz;cases hz;exact⟨{e with key:=Qj f,val:=vv},by simp[z1w,C],by rw[hky],hvr⟩
       .rw [x9v (z1f J)]at hz;obtain⟨e',R,h7⟩:=h2 m z hz;exact⟨e',by rw[z1w,if_neg (z1f J)];exact R,h7⟩
   have hrun':(execOp a.eval o).run P w=.ok .skip {w with heap:=w.heap.setIfInBounds B.blk (.map es' q)}:=by
    simp only[execOp,hop,hxe,hkv,hve,Sem.run_bind,hrun,Result.andThen_ok];rfl
   obtain⟨H',hK,C,h4,h5⟩:=HE A.heap.nodup h;have hot:∀b,b≠B.blk->({w with heap:=w.heap.setIfInBounds B.blk (.map es' q)}:World).heap[b]?=w.heap[b]?:=fun b U=>z1v (z1f U);have Y:HRel σ β H' {w with heap:=w.heap.setIfInBounds B.blk (.map es' q)}:=by
    refine⟨fun b c U=>?_,fun j c g=>?_,by rw[C];exact A.heap.nodup,fun j g i' Z b U=>?_,fun j g j' hj'=>A.heap.inj j (C▸g) j' (C▸hj')⟩
    .obtain ⟨e,fr,R⟩:=A.heap.mem b c U;exact⟨e,fr,(hot b fun he=>by rw[he,hh]at R;cases R).trans R⟩
    .by_cases hjk:j=k
     .subst hjk;rw[h5 c g];exact⟨B,es',q,D,by simp[hlt],hbo',by simpa using hsz,hent⟩
     .have J:=h4 j c g hjk;exact(A.heap.chunks j c J).mono (Mem.le_refl σ) fun i' Z b U=>hot b fun he=>hjk (A.heap.inj j (x6r.2 ⟨_,J,rfl⟩) k F i' B Z D b U (.inl he.symm))
    .have:=A.heap.apart j (C▸g) i' Z b U;exact⟨this.1,by simpa using this.2⟩
   refine Yh hrun' ⟨σ,β,⟨s.sl,H'⟩,hK,⟨?_,?_,?_,Y⟩,Mem.le_refl σ,⟨rfl,rfl,rfl,x7u _,by simp,fun b _ hn=>hot b fun he=>hn ⟨k,F,B,D,.inl he.symm⟩⟩,fun b h0 O=>absurd h0 O,fun b ⟨j,g,r⟩=>.inl ⟨j,C▸g,r⟩,fun _ _ _=>rfl⟩
   .rw [E];exact A.size
   .rw [E];exact A.defers
   .rw [E];exact A.G
end
def XB(i:Str)(h:List Str):List Arg->List Str->Bool
 |[],_=>true
 |a::r,seen=>bif a.ref then bif (seen.any fun s=>a.name==s)||((a.name==i)||h.any fun s=>a.name==s)then false else XB i h r (seen++[a.name])else XB i h r seen
def Nz(t:S)(h:List Str)(x:t.args.length<=21000):SpecP prog 157 [.agg t.cells,eStrs h] (fun r=>r=.bool (XB t.name h t.args [])):=by
 refine sB Gj func157 rfl call157 ?_;conv=>whnf
 repeat' (refine iM fun _=>?_;conv=>whnf)
 have y:(t.args.map fun a=>AV.agg a.cells).length=t.args.length:=x6j _;refine LoopK.inv QW (fun i:Nat×List Str=>⟨[(1,.p (eStrs h)),(2,.p (.ip t.cells)),(5,.hd 0 0 i.2.length),(9,.p (.sl (t.args.map fun a=>.agg a.cells))),(10,.p (.int .i64 (t.args.map fun a=>AV.agg a.cells).length)),(11,.p (.int .i64 i.1))],[(0,.own 9 1 (i.2.map .str))]⟩)
  (fun i=>i.1<=t.args.length/\i.2.length<=i.1/\XB t.name h (t.args.drop i.1) i.2=XB t.name h t.args []) (fun i=>t.args.length-i.1) (0,[])
  (Le.mk [(0,.own 9 1 [])] (by simp[Chunk.new0];rfl) (by simp) (by simp) (.r (.r (.cons (.nil x6g) (.r (.r (.r .nil)))))) (.new x6g .nil))
  ⟨x6t _,x7u _,rfl⟩ ?_
 rintro⟨j,m⟩ ⟨q,u,n⟩;simp only at q u n⊢;rcases x6c j t.args.length with o|o
 .rw [x7t o,XB]at n;conv=>whnf
  repeat' (first|((first|refine cP (QU _ _) ?_|refine x6d rfl ?_|refine aD ?_|refine bP ?_|(refine iA fun _=>?_)|refine wI ?_|(refine QB (QU m (t.args[j]'o).name) (.cons (.hd rfl (by simp)) (.cons (.p (Sub.refl _)) .nil)) (by rintro _ rfl;rfl) ?_;rintro _ rfl)|refine QP (by simp) (by simp;omega) ?_);conv=>whnf)|(apply bD<;>intro _<;>first|omega|conv=>whnf)|(apply bN<;>intro _<;>conv=>whnf)|(apply bB<;>intro _<;>conv=>whnf))
  all_goals first
   |exact RetK.ff (by rw[<-n];simp[*])
   |exact⟨(j+1,m++[t.args[j].name]),⟨by simp only;omega,by simp;omega,by simp only;rw[<-n];simp[*]⟩,by simp only;omega,Le.of_eq (by simp only[x6f,x6l];rfl)⟩
   |exact⟨(j+1,m),⟨by simp only;omega,by simp only;omega,by simp only;rw[<-n];simp[*]⟩,by simp only;omega,Le.of_eq rfl⟩
 .rw [x7v o,XB]at n;conv=>whnf
  repeat' (apply bD<;>intro _<;>first|omega|conv=>whnf)
  exact RetK.tt n.symm
def HW(p:Pg):Int×Int:=
 if(VO p).1≠0 then(1,0)else match(VJ p).find? fun t=>decide (t.kind=4) && !XB t.name (YJ p t.D) t.args []with
  |some t=>(8,t.id)
  |none=>(0,0)
def Oz(h:(VO p).1=0):(QA p).1=0/\(VJ p).find? (fun t=>decide (t.kind=4) && !YV p t)=none:=by
 unfold VO at h;split at h
 .cases h
 .rename_i i;refine⟨by omega,?_⟩;split at h
  .cases h
  .assumption
def q1d{l:List (Str×AV)}{k:Str}{v:AV}{x:Str×AV}(h:x∈R7 l k v):x∈l\/x=(k,v):=by
 induction l with
 |nil=>rw[R7]at h;exact .inr (by simpa using h)
 | cons y r m=>
   rw[R7]at h;split at h
   .rename_i i;rcases x6m.1 h with h|h
    .exact .inr (by rw[h,i])
    .exact .inl (x6b _ h)
   .rcases x6m.1 h with h|h
    .exact .inl (by rw[h];exact x6g)
    .exact (m h).imp (x6b _) id
def q1f{l:List (Str×AV)}{k:Str}{v:AV}(h:s=k\/∃x∈l,x.1=s):∃x∈R7 l k v,x.1=s:=by
 induction l with
 | nil=>
   rcases h with rfl|⟨x,i,_⟩
   .exact ⟨(s,v),by rw[R7];exact x6g,rfl⟩
   .cases i
 | cons y r o=>
   rw[R7];split
   .rename_i q;rcases h with rfl|⟨x,i,rfl⟩
    .exact ⟨(y.1,v),x6g,q.symm⟩
    .rcases x6m.1 i with rfl|i
     .exact ⟨(x.1,v),x6g,rfl⟩
     .exact ⟨x,x6b _ i,rfl⟩
   .rcases h with rfl|⟨x,i,rfl⟩
    .obtain ⟨z,n,m⟩:=o (.inl rfl);exact⟨z,x6b _ n,m⟩
    .rcases x6m.1 i with rfl|i
     .exact ⟨x,x6g,rfl⟩
     .obtain ⟨z,n,m⟩:=o (.inr ⟨x,i,rfl⟩);exact⟨z,x6b _ n,m⟩
def q4p{l:List (Str×AV)}{g:Str->AV}(h:∀x∈l,x.2=g x.1){k:Str}(o:∃x∈l,x.1=k):q8m l k=some (g k):=by
 unfold q8m;cases i:l.find? fun x=>decide (k=x.1)with
 | none=>
   obtain⟨x,q,rfl⟩:=o;have:=z0v.1 i x q;simp at this
 | some x=>
   have n:=x9n i;have m:=z1x i;simp at m;simp[h x n,m]
def Rr(p:Pg)(H:Fit p):SpecP prog 92 [.agg p.cells] (fun r=>r=PX (HW p).1 (HW p).2):=by
 refine sB D3 func92 rfl call92 ?_;conv=>whnf
 repeat' (first|((first|refine cP (J4 p H) ?_|refine x6d rfl ?_);conv=>whnf)|(apply bE<;>intro _<;>first|omega|conv=>whnf))
 rotate_left 1
 .have e:HW p=(1,0):=by unfold HW;rw[if_pos (by assumption)]
  exact QL (by rw[e]) (by rw[e])
 have F:(VO p).1=0:=by assumption
 obtain⟨Q,_⟩:=Oz F;obtain⟨u,hb,hns⟩:=WX Q;obtain⟨hg,hpl,Z⟩:=ZL u;have hl:(p.A.map fun f=>AV.agg f.cells).length=p.A.length:=x6j _;repeat' ((first|(refine iM fun _=>?_)|refine OpK.makeMap rfl ?_);conv=>whnf)
 refine LoopK.inv QW (fun i:Nat×List (Str×AV)=>⟨[(1,.p (.ip p.cells)),(2,.ptr 1 0),(3,.ext 0 .map),(15,.p (.sl (p.A.map fun f=>.agg f.cells))),(16,.p (.int .i64 (p.A.map fun f=>AV.agg f.cells).length)),(17,.p (.int .i64 i.1))],[(0,.ext (q5y i.2)),(1,.obj 85 [.p (.int .i64 0),.p (.int .i64 0)])]⟩)
  (fun i=>i.1<=p.A.length/\(∀x∈i.2,x.2=eStrs (YJ p x.1))/\∀(m:Nat)(u:m<p.A.length),m<i.1->∃x∈i.2,x.1=p.A[m].name) (fun i=>p.A.length-i.1) (0,[])
  (Le.of_eq rfl) ⟨x6t _,by simp,by intro m u h;omega⟩ ?_
 rintro⟨j,l⟩ ⟨Y,B,C⟩;simp only at Y B C⊢;rcases x6c j p.A.length with U|U
 .have L:p.A[j].name∈procsN p:=x6r.2 ⟨_,x6o U,rfl⟩;conv=>whnf
  repeat' (first|((first|refine cP (Px p H Q _ L) ?_|refine dA ?_|refine x6d rfl ?_|(refine iA fun _=>?_)|refine wI ?_|refine OpK.mapUpdate QW rfl rfl rfl rfl rfl rfl rfl rfl rfl rfl ?_);conv=>whnf)|(apply bD<;>intro _<;>first|omega|conv=>whnf))
  refine⟨(j+1,R7 l p.A[j].name (eStrs (YJ p p.A[j].name))),⟨by simp only;omega,fun x R=>?_,fun m u h=>?_⟩,by simp only;omega,Le.of_eq rfl⟩
  .rcases q1d R with R|rfl
   .exact B x R
   .rfl
  .refine q1f ?_;rcases x6c m j with c|c
   .exact .inr (C m u c)
   .obtain rfl:m=j:=by simp only at h;omega
    exact .inl rfl
 have J:∀n∈procsN p,q8m l n=some (eStrs (YJ p n)):=fun n L=>q4p (g:=fun n=>eStrs (YJ p n)) B (by
  obtain⟨f,o,rfl⟩:=x6r.1 L;obtain⟨m,u,rfl⟩:=List.getElem_of_mem o;exact C m u (by omega))
 clear B C;conv=>whnf
 repeat' (first|((first|(refine iM fun _=>?_)|(refine CallK.pure (FE p (by omega) (by omega)) (.cons (Sub.refl _) .nil) ?_;rintro _ rfl));conv=>whnf)|(apply bD<;>intro _<;>first|omega|conv=>whnf))
 have F:HW p=match(VJ p).find? fun t=>decide (t.kind=4) && !XB t.name (YJ p t.D) t.args []with
  |some t=>(8,t.id)
  |none=>(0,0):=by unfold HW;rw[if_neg (by omega)]
 have hil:=UQ (sheetOf p).l;have hib:(sheetOf p).l.length<=200:=by have:=(QY p).2.2.2.1;omega
 have z:=NK (q:=fun t=>decide (t.kind=4) && !XB t.name (YJ p t.D) t.args []) (sheetOf p).l;rw[DK]at z;have G:HW p=match((sheetOf p).l.find? fun it=>decide (it.s.kind=4) && !XB it.s.name (YJ p it.s.D) it.s.args []).map (fun it=>it.s.id)with
  |some a=>(8,a)
  |none=>(0,0):=by
  rw[F,z];cases(VJ p).find? fun t=>decide (t.kind=4) && !XB t.name (YJ p t.D) t.args []<;>rfl
 rw[G];refine LoopK.inv QW (fun k:Nat=>⟨[(2,.ptr 1 0),(3,.ext 0 .map),(33,.p (UH (sheetOf p).l)),(34,.p (.int .i64 ((sheetOf p).l.map fun i=>AV.agg i.cells).length)),(35,.p (.int .i64 k))],[(0,.ext (q5y l)),(1,.obj 85 [.p (.int .i64 0),.p (.int .i64 0)])]⟩)
  (fun k=>k<=(sheetOf p).l.length/\((sheetOf p).l.drop k).find? (fun it=>decide (it.s.kind=4) && !XB it.s.name (YJ p it.s.D) it.s.args [])=(sheetOf p).l.find? fun it=>decide (it.s.kind=4) && !XB it.s.name (YJ p it.s.D) it.s.args []) (fun k=>(sheetOf p).l.length-k) 0 (Le.of_eq rfl) ⟨x6t _,rfl⟩ ?_
 rintro k ⟨h5,E⟩;rcases x6c k (sheetOf p).l.length with y|y;rotate_left 1
 .rw [<-E,FT y];conv=>whnf
  repeat' (first|(refine x6d rfl ?_;conv=>whnf)|(apply bD<;>intro _<;>first|omega|conv=>whnf))
  exact QL rfl rfl
 have hw:=CN H y;have M:(sheetOf p).l[k].s.args.length<=21000:=by
  have:=H4 (sheetOf p).l[k].s;have:=YO (sheetOf p).l[k].s.args;omega
 have O:(sheetOf p).l[k].s.kind=4->(sheetOf p).l[k].s.D∈procsN p:=fun K=>by
  have d:(sheetOf p).l[k].s∈VJ p:=by
   rw[<-DK];exact x6r.2 ⟨_,x6o y,rfl⟩
  unfold VJ at d;obtain⟨f,o,I⟩:=x8w.1 d;exact(Vz Q o I K).1
 conv=>whnf
 repeat' (first|((first|refine cP (Nz _ _ M) ?_|refine x6d rfl ?_|(refine iA fun _=>?_)|refine wI ?_|refine OpK.lookup QW rfl rfl rfl rfl rfl rfl rfl rfl (J _ (O (by omega))) ?_);conv=>whnf)|(apply bD<;>intro _<;>first|omega|conv=>whnf)|(apply bN<;>intro _<;>conv=>whnf))
 all_goals first
  | (have V:=FS (p:=fun it:Item=>decide (it.s.kind=4) && !XB it.s.name (YJ p it.s.D) it.s.args []) y (by simp[*])
     rw[<-E,V];exact QL rfl rfl)
  |exact⟨k+1,⟨by omega,by rw[<-E,Q1 (p:=fun it:Item=>decide (it.s.kind=4) && !XB it.s.name (YJ p it.s.D) it.s.args []) y (by simp[*])]⟩,by omega,Le.of_eq rfl⟩
def q3s(p:Pg):Int×Int:=
 if YH p=false then(1,0)else
 if(QA p).1≠0 then QA p else
 if(VO p).1≠0 then VO p else
 if(MH p).1≠0 then MH p else HW p
def AK(p:Pg)(h:Fit p):SpecP prog 48 [.agg p.cells] (fun r=>r=PX (q3s p).1 (q3s p).2):=by
 refine sB Rq func48 rfl call48 ?_;conv=>whnf
 repeat' (first|((first|refine cP (Pw _) ?_|refine cP (KB p h) ?_|refine cP (J4 p h) ?_|refine cP (Cr p h) ?_|refine cP (Rr p h) ?_|refine x6d rfl ?_);conv=>whnf)|(apply bD<;>intro _<;>first|omega|conv=>whnf)|(apply bN<;>intro _<;>conv=>whnf))
 all_goals exact QL (by unfold q3s;simp[*]) (by unfold q3s;simp[*])
def QS(p:Pg):Bool:=decide ((q3s p).1=0)
def J8(p:Pg)(h:Fit p):SpecP prog 12 [.agg p.cells] (fun r=>r=.bool (QS p)):=by
 refine sB Rx func12 rfl call12 ?_;conv=>whnf
 repeat' (refine cP (AK p h) ?_;conv=>whnf)
 exact RetK.bool rfl
def ZN(x:Int):Int:=if x = -1 then 9223372036854775807 else x
def E6(x:Int):SpecP prog 119 [.int .i64 x] (fun r=>r=.int .i64 (ZN x)):=by
 refine sB Rz func119 rfl call119 ?_;conv=>whnf
 repeat' (apply bD<;>intro _<;>first|omega|conv=>whnf)
 all_goals exact RetK.int (by unfold ZN;simp[*])
def Gd(x:Int):SpecP prog 188 [.int .i64 x] (fun r=>r=.bool false):=by
 refine sB Uv func188 rfl call188 ?_;conv=>whnf
 skip
 exact RetK.bool (by simp)
def TV(x y:Int):Int:=if x<y then -1 else if y<x then 1 else 0
def Uf(x y:Int):SpecP prog 118 [.int .i64 x,.int .i64 y] (fun r=>r=.int .i64 (TV x y)):=by
 refine sB Qs func118 rfl call118 ?_;conv=>whnf
 repeat' (first|(refine cP (Gd _) ?_;conv=>whnf)|(apply bD<;>intro _<;>first|omega|conv=>whnf)|(apply bB<;>intro _<;>conv=>whnf))
 all_goals first
  |contradiction
  |exact RetK.int (by unfold TV;simp[*])
  |exact RetK.int (by unfold TV;rw[if_neg (by assumption),if_pos (by omega)])
  |exact RetK.int (by unfold TV;rw[if_neg (by assumption),if_neg (by omega)])
def orI:List Int->Int
 |[]=>0
 |a::r=>if a=0 then orI r else a
def Ra(l:List Int):SpecP prog 117 [XL l] (fun r=>r=.int .i64 (orI l)):=by
 refine sB D5 func117 rfl call117 ?_;conv=>whnf
 repeat' (refine iM fun _=>?_;conv=>whnf)
 have n:(l.map (AV.int .i64)).length=l.length:=x6j _;refine LoopK.inv QW (fun j:Nat=>⟨[(3,.p (.int .i64 0)),(6,.p (XL l)),(7,.p (.int .i64 (l.map (AV.int .i64)).length)),(8,.p (.int .i64 j))],[]⟩) (fun j=>j<=l.length/\orI (l.drop j)=orI l) (fun j=>l.length-j) 0 (Le.of_eq rfl) ⟨x6t _,rfl⟩ ?_;rintro j ⟨m,h⟩;rcases x6c j l.length with i|i
 .rw [x7t i,orI]at h;conv=>whnf
  repeat' (first|((first|(refine iA fun _=>?_)|refine wI ?_);conv=>whnf)|(apply bD<;>intro _<;>first|omega|conv=>whnf)|(apply bE<;>intro _<;>first|omega|conv=>whnf))
  all_goals first
   |exact RetK.int (by rw[<-h,if_neg (by assumption)])
   |exact⟨j+1,⟨by omega,by rw[<-h,if_pos (by assumption)]⟩,by omega,Le.of_eq rfl⟩
   |exact⟨j+1,⟨by omega,by rw[<-h,if_pos (by simp_all)]⟩,by omega,Le.of_eq rfl⟩
 .rw [x7v i,orI]at h;conv=>whnf
  repeat' (apply bD<;>intro _<;>first|omega|conv=>whnf)
  exact RetK.int h
def KE(l:List S)(o:Int):Int:=match l with
 |[]=>o
 |t::_=>t.id
def E7(l:List S)(o:Int):SpecP prog 270 [.sl (l.map fun t=>.agg t.cells),.int .i64 o] (fun r=>r=.int .i64 (KE l o)):=by
 refine sB Rv func270 rfl call270 ?_;conv=>whnf
 repeat' (first|(refine iM fun _=>?_;conv=>whnf)|(apply bD<;>intro _<;>first|omega|conv=>whnf))
 .cases l with
  |nil=>simp at*
  | cons t r=>
    refine IdxK.at (k:=0) rfl rfl rfl ?_;exact RetK.int rfl
 .cases l with
  |nil=>exact RetK.int rfl
  |cons t r=>simp at*
def ZR(a b:Step):Bool:=decide (a.src=b.src)&&decide (a.dst=b.dst)
def Jk(a b:Step):SpecP prog 231 [.agg a.cells,.agg b.cells] (fun r=>r=.bool (ZR a b)):=by
 refine sB D7 func231 rfl call231 ?_;conv=>whnf
 repeat' (apply bD<;>intro _<;>first|omega|conv=>whnf)
 all_goals first
  |exact RetK.bool (show(a.dst==b.dst)=ZR a b by unfold ZR;simp[*];rfl)
  |exact RetK.ff (by unfold ZR;simp[*])
def Tw(a b:Step):Int:=orI [TV (ZN a.src) (ZN b.src),TV (ZN a.dst) (ZN b.dst),TV a.kind b.kind]
def RY(a b:Step):SpecP prog 229 [.agg a.cells,.agg b.cells] (fun r=>r=.int .i64 (Tw a b)):=by
 refine sB D6 func229 rfl call229 ?_;conv=>whnf
 repeat' ((first|refine cP (E6 _) ?_|refine cP (Uf _ _) ?_|refine cP (Ra [TV (ZN a.src) (ZN b.src),TV (ZN a.dst) (ZN b.dst),TV a.kind b.kind]) ?_|refine dA ?_|refine x6d rfl ?_|refine aD ?_|refine BsK.pureL rfl rfl ?_);conv=>whnf)
 exact RetK.int rfl
end Go.Ab
