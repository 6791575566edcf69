/- The library's contracts at this seat's program, in plain words (printed by the kit's lay-plain.mjs). Conditions: none. -/
import Derived.Shelf.Sort.Plain
import Derived.Shelf.Slices.In.SortNone
import Derived.Shelf.Slices.CompactS
import Derived.Ground.Names2Prog
import Derived.Shelf.Slices.SearchI
import Derived.Shelf.Slices.Empties
import Derived.Shelf.Spec.SlicesInsert
import Derived.Shelf.Spec.SlicesInsertGrow
import Derived.Test.YtonbdgcjnecapaaGreatProg
import Derived.Test.YtonbdgcjnecapaaGreatRchC6
import Derived.Test.YtonbdgcjnecapaaGreatRchC7
import Derived.Test.YtonbdgcjnecapaaGreatRchC10
set_option linter.all false
set_option maxRecDepth 100000
set_option maxHeartbeats 16000000
open List (findIdx?_cons)
namespace Go.Proofs
open Go.Shelf
def Tryz.lays190_ren:Go.Shelf.Ren:=⟨fun|190=>161|125=>187|258=>220|128=>245|129=>246|302=>272|303=>273|304=>274|305=>275|306=>276|307=>277|308=>235|309=>278|310=>279|333=>307|329=>294|330=>295|334=>308|335=>309|336=>189|344=>334|n=>n,fun|31=>22|9=>9|3=>3|46=>242|0=>0|51=>280|53=>282|4=>4|183=>274|182=>273|131=>201|5=>5|218=>307|222=>311|228=>328|229=>30|n=>n,fun|n=>n⟩
def Zs:Go.Proofs.Lays.n190 Tryz.prog Tryz.lays190_ren:={
 mixed:=by kernel_rfl
 f125:=Tryz.func187.trans (congrArg some (by kernel_rfl))
 f128:=Tryz.func245.trans (congrArg some (by kernel_rfl))
 f129:=Tryz.func246.trans (congrArg some (by kernel_rfl))
 f190:=Tryz.func161.trans (congrArg some (by kernel_rfl))
 f258:=Tryz.func220.trans (congrArg some (by kernel_rfl))
 f302:=Tryz.func272.trans (congrArg some (by kernel_rfl))
 f303:=Tryz.func273.trans (congrArg some (by kernel_rfl))
 f304:=Tryz.func274.trans (congrArg some (by kernel_rfl))
 f305:=Tryz.func275.trans (congrArg some (by kernel_rfl))
 f306:=Tryz.func276.trans (congrArg some (by kernel_rfl))
 f307:=Tryz.func277.trans (congrArg some (by kernel_rfl))
 f308:=Tryz.func235.trans (congrArg some (by kernel_rfl))
 f309:=Tryz.func278.trans (congrArg some (by kernel_rfl))
 f310:=Tryz.func279.trans (congrArg some (by kernel_rfl))
 f329:=Tryz.func294.trans (congrArg some (by kernel_rfl))
 f330:=Tryz.func295.trans (congrArg some (by kernel_rfl))
 f333:=Tryz.func307.trans (congrArg some (by kernel_rfl))
 f334:=Tryz.func308.trans (congrArg some (by kernel_rfl))
 f335:=Tryz.func309.trans (congrArg some (by kernel_rfl))
 f336:=Tryz.func189.trans (congrArg some (by kernel_rfl))
 f344:=Tryz.func334.trans (congrArg some (by kernel_rfl))
 t0:=Tryz.underlying0
 a0:=Tryz.isAgg0
 z0:=Tryz.sizeOf0
 v0:=Tryz.zeroValue0
 t3:=Tryz.underlying3
 a3:=Tryz.isAgg3
 z3:=Tryz.sizeOf3
 v3:=Tryz.zeroValue3
 t4:=Tryz.underlying4
 a4:=Tryz.isAgg4
 z4:=Tryz.sizeOf4
 v4:=Tryz.zeroValue4
 t5:=Tryz.underlying5
 a5:=Tryz.isAgg5
 z5:=Tryz.sizeOf5
 v5:=Tryz.zeroValue5
 t9:=Tryz.underlying9
 a9:=Tryz.isAgg9
 z9:=Tryz.sizeOf9
 v9:=Tryz.zeroValue9
 t31:=Tryz.underlying22
 a31:=Tryz.isAgg22
 z31:=Tryz.sizeOf22
 v31:=Tryz.zeroValue22
 t46:=Tryz.underlying242
 a46:=Tryz.isAgg242
 z46:=Tryz.sizeOf242
 v46:=Tryz.zeroValue242
 t51:=Tryz.underlying280
 a51:=Tryz.isAgg280
 z51:=Tryz.sizeOf280
 v51:=Tryz.zeroValue280
 t53:=Tryz.underlying282
 a53:=Tryz.isAgg282
 z53:=Tryz.sizeOf282
 v53:=Tryz.zeroValue282
 t131:=Tryz.underlying201
 a131:=Tryz.isAgg201
 z131:=Tryz.sizeOf201
 v131:=Tryz.zeroValue201
 t182:=Tryz.underlying273
 a182:=Tryz.isAgg273
 z182:=Tryz.sizeOf273
 v182:=Tryz.zeroValue273
 t183:=Tryz.underlying274
 a183:=Tryz.isAgg274
 z183:=Tryz.sizeOf274
 v183:=Tryz.zeroValue274
 t218:=Tryz.underlying307
 a218:=Tryz.isAgg307
 z218:=Tryz.sizeOf307
 v218:=Tryz.zeroValue307
 t222:=Tryz.underlying311
 a222:=Tryz.isAgg311
 z222:=Tryz.sizeOf311
 v222:=Tryz.zeroValue311
 t228:=Tryz.underlying328
 a228:=Tryz.isAgg328
 z228:=Tryz.sizeOf328
 v228:=Tryz.zeroValue328
 t229:=Tryz.underlying30
 a229:=Tryz.isAgg30
 z229:=Tryz.sizeOf30
 v229:=Tryz.zeroValue30}
def Tryz.lays194_ren:Go.Shelf.Ren:=⟨fun|194=>162|n=>n,fun|31=>22|9=>9|3=>3|4=>4|0=>0|n=>n,fun|n=>n⟩
def Zc:Go.Proofs.Lays.n194 Tryz.prog Tryz.lays194_ren:={
 mixed:=by kernel_rfl
 f194:=Tryz.func162.trans (congrArg some (by kernel_rfl))
 t0:=Tryz.underlying0
 a0:=Tryz.isAgg0
 z0:=Tryz.sizeOf0
 v0:=Tryz.zeroValue0
 t3:=Tryz.underlying3
 a3:=Tryz.isAgg3
 z3:=Tryz.sizeOf3
 v3:=Tryz.zeroValue3
 t4:=Tryz.underlying4
 a4:=Tryz.isAgg4
 z4:=Tryz.sizeOf4
 v4:=Tryz.zeroValue4
 t9:=Tryz.underlying9
 a9:=Tryz.isAgg9
 z9:=Tryz.sizeOf9
 v9:=Tryz.zeroValue9
 t31:=Tryz.underlying22
 a31:=Tryz.isAgg22
 z31:=Tryz.sizeOf22
 v31:=Tryz.zeroValue22}
def Tryz.laysB_ren:Go.Shelf.Ren:=⟨fun|25=>305|31=>330|32=>331|37=>188|n=>n,fun|22=>54|3=>3|4=>4|40=>242|0=>0|n=>n,fun|n=>n⟩
def K0:Go.Proofs.Lays2.n25 Tryz.prog Tryz.laysB_ren:={
 mixed:=by kernel_rfl
 f25:=Tryz.func305.trans (congrArg some (by kernel_rfl))
 f31:=Tryz.func330.trans (congrArg some (by kernel_rfl))
 f32:=Tryz.func331.trans (congrArg some (by kernel_rfl))
 f37:=Tryz.func188.trans (congrArg some (by kernel_rfl))
 t0:=Tryz.underlying0
 a0:=Tryz.isAgg0
 z0:=Tryz.sizeOf0
 v0:=Tryz.zeroValue0
 t3:=Tryz.underlying3
 a3:=Tryz.isAgg3
 z3:=Tryz.sizeOf3
 v3:=Tryz.zeroValue3
 t4:=Tryz.underlying4
 a4:=Tryz.isAgg4
 z4:=Tryz.sizeOf4
 v4:=Tryz.zeroValue4
 t22:=Tryz.underlying54
 a22:=Tryz.isAgg54
 z22:=Tryz.sizeOf54
 v22:=Tryz.zeroValue54
 t40:=Tryz.underlying242
 a40:=Tryz.isAgg242
 z40:=Tryz.sizeOf242
 v40:=Tryz.zeroValue242}
def Tryz.laysI_ren:Go.Shelf.Ren:=⟨fun|21=>306|27=>332|28=>333|35=>341|39=>343|n=>n,fun|22=>54|3=>3|4=>4|0=>0|n=>n,fun|n=>n⟩
def GX:Go.Proofs.Lays2.n21 Tryz.prog Tryz.laysI_ren:={
 mixed:=by kernel_rfl
 f21:=Tryz.func306.trans (congrArg some (by kernel_rfl))
 f27:=Tryz.func332.trans (congrArg some (by kernel_rfl))
 f28:=Tryz.func333.trans (congrArg some (by kernel_rfl))
 f35:=Tryz.func341.trans (congrArg some (by kernel_rfl))
 f39:=Tryz.func343.trans (congrArg some (by kernel_rfl))
 t0:=Tryz.underlying0
 a0:=Tryz.isAgg0
 z0:=Tryz.sizeOf0
 v0:=Tryz.zeroValue0
 t3:=Tryz.underlying3
 a3:=Tryz.isAgg3
 z3:=Tryz.sizeOf3
 v3:=Tryz.zeroValue3
 t4:=Tryz.underlying4
 a4:=Tryz.isAgg4
 z4:=Tryz.sizeOf4
 v4:=Tryz.zeroValue4
 t22:=Tryz.underlying54
 a22:=Tryz.isAgg54
 z22:=Tryz.sizeOf54
 v22:=Tryz.zeroValue54
 i3:=by kernel_rfl}
end Go.Proofs
namespace Go.Ab
open Go.Proofs.Tryz
open Go.Proofs Go.Sort
variable {α:Type}{b clock j k:Nat}{e:TypeId}{es:Array MapEntry}{l:List Str}{p:Pg}{s:Str}{v:Value}{vs:Array Value}{w:World}{β:Lab}{σ:Mem}
def Vk{c c':Chunk}{w':World}{i:BInfo}(h:HRel σ β [(k,c)] w)(y:β k=some i)(q:Frm (fun b=>b=i.blk) w w')(u:c'.holds σ β w' k):HRel σ β [(k,c')] w'/\Later σ β [(k,c)] w σ β [(k,c')] w':=by
 have r:=h.apart k (by simp) i y;refine⟨⟨fun b cs m=>?_,fun j d n=>?_,by simp,fun j n i' o b m=>?_,fun j n B t _ _ _ _ _ _ _=>?_⟩,Mem.le_refl σ,⟨q.os,q.tape,q.output,q.drawn,q.size,fun b m A=>q.block b m fun x=>A ⟨k,by simp,i,y,.inl x.symm⟩⟩,
  fun b f g=>absurd f g,fun b ⟨j,n,i',o,m⟩=>.inl ⟨j,by simpa using n,i',o,m⟩,fun _ _ _=>rfl⟩
 .obtain ⟨e,a,z⟩:=h.mem b cs m;exact⟨e,a,(q.block b (x1y.1 z).1 fun x=>by rw[x,(r _ i.has_blk).1]at m;cases m).trans z⟩
 .simp at n;obtain⟨rfl,rfl⟩:=n;exact u
 .simp at n;subst n;rw[y]at o;cases o;exact⟨(r b m).1,x4u (r b m).2 q.size⟩
 .simp at n t;rw[n,t]
def VK(h:w.heap[b]?=some (.cells vs e (0,0)))(o:Nat):w.frozen? ⟨b,o,none⟩=false:=by
 simp[World.frozen?,h]
def JS(h:w.heap[b]?=some (.cells vs e (0,0)))(o:Nat):w.cell? ⟨b,o,none⟩=vs[o]?:=by
 simp[World.cell?,h]
def BS[Inhabited α]{enc:α->Value}{n:Nat}{d:Array α}{os:Array Obj}(h:w.heap[b]?=some (.cells vs e (0,0)))(m:b<w.heap.size):
  Frm (fun x=>x=b) w (grow (putRow enc (Sort.ahead w n) b 0 d) os)/\(grow (putRow enc (Sort.ahead w n) b 0 d) os).heap[b]?=some (.cells (putCells enc 0 d vs) e (0,0)):=by
 have i:(grow (putRow enc (Sort.ahead w n) b 0 d) os).heap=w.heap.modify b (onCells (putCells enc 0 d))++os:=rfl;refine⟨⟨rfl,rfl,rfl,Nat.le_add_right _ _,?_,fun k o q=>?_⟩,?_⟩
 .rw [i];simp
 .rw [i,x4m (by simpa using o),x4f,if_neg (x4g q)]
 .rw [i,x4m (by simpa using m),x4f,if_pos rfl,h];rfl
def KZ[Inhabited α]{enc:α->Value}{d:Array α}(m:d.size<=vs.size)(i:k<d.size):(putCells enc 0 d vs)[k]?=some (enc d[k]):=by
 unfold putCells;have h:k<vs.size:=by omega
 simp[h,i]
def Ty(h:∀(m:Nat)(x:AV),(l.map AV.str)[m]?=some x->x.cells.length=1/\∀(j:Nat)(c:AV),x.cells[j]?=some c->∃u:Value,vs[m*1+j]?=some u/\Rep σ c u)(q:j<l.length):
  vs[j]?=some (encStr l[j])/\l[j].length<=maxLen:=by
 obtain⟨u,i,n⟩:=(h j (.str l[j]) (by simp[q])).2 0 (.str l[j]) rfl;cases n with
 |str _ o=>exact⟨by simpa using i,o⟩
def Tj(h:∀j (n:j<l.length),vs[j]?=some (encStr l[j]))(t:∀s∈l,s.length<=maxLen):∀(m:Nat)(x:AV),(l.map AV.str)[m]?=some x->x.cells.length=1/\∀(j:Nat)(c:AV),x.cells[j]?=some c->∃u:Value,vs[m*1+j]?=some u/\Rep σ c u:=by
 intro m x i;rw[x0d]at i;cases q:l[m]?with
 |none=>rw[q]at i;cases i
 | some s=>
   rw[q]at i;cases i;obtain⟨r,rfl⟩:=x0m.1 q;refine⟨rfl,fun j c n=>?_⟩;have o:j=0:=by
    have:=(x0m.1 n).1;simpa[AV.cells]using this
   subst o;simp only[AV.cells,x6w,x4z]at n;subst n;exact⟨_,by simpa using h m r,.str _ (t _ (x0s r))⟩
def q5n{m:Array Value}{l:LV}(h:m.size=[l].length):∃v,m=#[v]:=⟨m[0]'(by simp at h;omega),by apply Array.ext;simpa using h;intro i o n;simp at n;subst n;rfl⟩
def Ks{n:Nat}{i:BInfo}(h:RepL σ β (.hd k 0 n) v)(r:β k=some i):v=.slice (some ⟨i.blk,0,none⟩) n i.cap:=by
 rcases h.hdI with⟨m,_⟩|⟨i',o,m,u,q,t⟩
 .rw [r]at m;cases m
 .rw [r]at m;cases m;rcases q with q|q
  .rw [t,q];simp
  .omega
def Pt{n:Nat}(h:RepL σ β (.hd k 0 n) v)(m:β k=none):v=.slice none 0 0/\n=0:=by
 rcases h.hdI with⟨_,_,q,r⟩|⟨i',o,i,_⟩
 .exact ⟨r,q⟩
 .rw [m]at i;cases i
def JN(l:List Str):List Str:=l.mergeSort fun x y=>decide (x<=y)
def HH(l:List Str)(G:l.length<=1000000000):
  SpecH prog 161 [.hd 1000 0 l.length] [(1000,.own 9 1 (l.map .str))] (fun r H=>r=.p (.tup [])/\H=[(1000,.own 9 1 ((JN l).map .str))]):=by
 refine⟨call161,fun σ β w J U q y=>?_⟩;obtain⟨v,rfl⟩:=q5n U;have q:=q 0 _ rfl;simp only[x4x,x1r,x4s,Array.getD_eq_getD_getElem?]at q;have q:RepL σ β (.hd 1000 0 l.length) v:=by simpa using q
 have f:=y.chunks 1000 _ x0k;have h:(JN l).length=l.length:=by unfold JN;simp
 rcases f with⟨c,g⟩|⟨i,vs,z,C,A,E,F,K,L⟩
 .have B:l=[]:=by simpa using g
  subst B;obtain⟨rfl,_⟩:=Pt q c;have t:=Any.slices_Sort_string_none Zs none 0 w;change Calls prog 161 _ _ _ at t;refine t.mono ?_;rintro e w' ⟨rfl,rfl⟩;exact⟨.p (.tup []),.tuple #[],σ,β,_,rfl,⟨rfl,rfl⟩,.p (.tup [] #[] (fun _=>undef) rfl (by simp) (by simp)),by simpa[JN]using y,by simpa[JN]using Later.refl _ _ _ _⟩
 .have D:=Ks q z;subst D;have x:=(y.apart 1000 (by simp) i z i.blk i.has_blk).2;have R:l.length<=vs.size:=by rw[E,x7v];simpa using F
  have m:=fun j o=>Ty (σ:=σ) (l:=l) L (j:=j) o;have t:=Any.slices_Sort_string Zs i.blk 0 i.cap l w (fun j o=>by
   have u:j<l.length:=by simpa using o
   refine⟨?_,VK A _⟩;rw[JS A,x3v,(m j u).1];simp[u]) x (by omega)
  change Calls prog 161 _ _ _ at t;refine t.mono ?_;rintro e w' ⟨rfl,n,os,rfl⟩;obtain⟨Q,O⟩:=BS (enc:=encStr) (n:=n) (os:=os) (d:=(JN l).toArray) A x;obtain⟨a,M⟩:=Vk (c':=.own 9 1 ((JN l).map .str)) y z Q (.inr ⟨i,_,z,C,O,by simpa[putCells]using E,by simpa[h]using F,K,Tj (fun j o=>by
   have:=KZ (enc:=encStr) (d:=(JN l).toArray) (vs:=vs) (by simp[h];omega) (k:=j) (by simpa using o);simpa using this) fun s I=>by
    have:s∈l:=by unfold JN at I;simpa using I
    obtain⟨j,o,rfl⟩:=x2m.1 this;exact(m j o).2⟩)
  exact⟨.p (.tup []),.tuple #[],σ,β,_,rfl,⟨rfl,rfl⟩,.p (.tup [] #[] (fun _=>undef) rfl (by simp) (by simp)),a,M⟩
def Kw(l:List Str):(Go.Lib.compact l).length<=l.length:=by
 unfold Go.Lib.compact Go.Lib.compactUpTo;rw[x0j];exact x1t (x2l _ _) (by simp)
def NP(h:s∈Go.Lib.compact l):s∈l:=by
 unfold Go.Lib.compact Go.Lib.compactUpTo at h;obtain⟨j,m,rfl⟩:=x0n.1 h;have:=(x1s.1 m).1;have i:j<l.length:=by simpa using this
 simp[i]
def HJ[Inhabited α]{enc:α->Value}{d:Array α}{o:Nat}:(putCells enc o d vs).size=vs.size:=by simp[putCells]
def KT(l:List Str)(K:l.length<=1000000000):
  SpecH prog 162 [.hd 1000 0 l.length] [(1000,.own 9 1 (l.map .str))] (fun r H=>r=.hd 1000 0 (Go.Lib.compact l).length/\H=[(1000,.own 9 1 ((Go.Lib.compact l).map .str))]):=by
 refine⟨call162,fun σ β w L V o a=>?_⟩;obtain⟨v,rfl⟩:=q5n V;have o:=o 0 _ rfl;have o:RepL σ β (.hd 1000 0 l.length) v:=by simpa using o
 have f:=a.chunks 1000 _ x0k;have R:=Kw l;rcases f with⟨t,g⟩|⟨i,vs,y,D,A,F,G,M,O⟩
 .have B:l=[]:=by simpa using g
  subst B;obtain⟨rfl,_⟩:=Pt o t;have u:=Any.slices_Compact_string_empty Zc none 0 w;change Calls prog 162 _ _ _ at u;refine u.mono ?_;rintro e w' ⟨rfl,rfl⟩;exact⟨.hd 1000 0 0,.slice none 0 0,σ,β,_,rfl,⟨rfl,rfl⟩,.hdn 1000 t,by simpa[Go.Lib.compact,Go.Lib.compactUpTo]using a,by simpa[Go.Lib.compact,Go.Lib.compactUpTo]using Later.refl _ _ _ _⟩
 .have E:=Ks o y;subst E;have C:=(a.apart 1000 (by simp) i y i.blk i.has_blk).2;have U:l.length<=vs.size:=by rw[F,x7v];simpa using G
  have x:l.length<=i.cap:=by simpa using G
  have h:=fun j m=>Ty (σ:=σ) (l:=l) O (j:=j) m;have u:=Any.slices_Compact_string Zc i.blk 0 i.cap l w (fun j m=>by
   have z:j<l.length:=by simpa using m
   refine⟨?_,VK A _⟩;rw[JS A,x3v,(h j z).1];simp[z]) (by omega) x
  change Calls prog 162 _ _ _ at u;refine u.mono ?_;rintro e w' ⟨rfl,q,rfl⟩;obtain⟨J,I⟩:=BS (enc:=encStr) (n:=q) (os:=#[]) (d:=(Go.Lib.compact l++List.replicate (l.length-(Go.Lib.compact l).length) []).toArray) A C;rw[grow_empty]at J I;obtain⟨c,Q⟩:=Vk (c':=.own 9 1 ((Go.Lib.compact l).map .str)) a y J (.inr ⟨i,_,y,D,I,by rw[HJ];exact F,by simp;omega,M,Tj (fun j m=>by
   have:=KZ (enc:=encStr) (d:=(Go.Lib.compact l++List.replicate (l.length-(Go.Lib.compact l).length) []).toArray) (vs:=vs) (by simp;omega) (k:=j) (by simp;omega);rw[this];simp[List.getElem_append_left m]) fun s Y=>by
    obtain⟨j,m,rfl⟩:=x2m.1 (NP Y);exact(h j m).2⟩)
  refine⟨.hd 1000 0 (Go.Lib.compact l).length,_,σ,β,_,rfl,⟨rfl,rfl⟩,?_,c,Q⟩;have:=x7w (σ:=σ) (β:=β) 1000 0 (Go.Lib.compact l).length i 0 y (by omega) (.inl (by simp));simpa using this
def JB(q:(XX p).1=0){f:Pr}(o:f∈p.A){t:S}(r:t∈flL f.body):knownB p f (procsN p) t=true:=by
 obtain⟨_,_,h⟩:=KV q;have i:=x5z.1 h f o;unfold WN at i;cases m:(ZG (Jc f)||(Jc f).any fun n=>p.D.any fun s=>n==s)<;>rw[m]at i
 .simp only[x1g,x6h]at i;have:=x3a.1 i t r;simpa using this
 .cases i
def Gl(q:(XX p).1=0){f:Pr}(n:f∈p.A){t:S}(r:t∈flL f.body)(o:t.kind=4):t.C∈procsN p/\t.C≠mainS:=by
 have:=JB q n r;unfold knownB at this;simp only[x1z,x3i,x1n]at this;rcases this.2 with h|h
 .exact absurd o h
 .simp only[x3f,x7x,ne_eq]at h;refine⟨?_,h.1⟩;obtain⟨s,i,m⟩:=x2e.1 h.2;have:=eq_of_beq m;exact this▸i
def GA(f:Pr):List Str:=((flL f.body).filter fun t=>decide (t.kind=4)).map S.C
def FM(f:Pr):List Str:=Go.Lib.compact (JN (GA f))
def J6:s∈JN l↔s∈l:=by unfold JN;simp
def UZ(l:List Str):(JN l).length=l.length:=by unfold JN;simp
def TH(f:Pr):(FM f).length<=QW f.body:=by
 have:=Kw (JN (GA f));rw[UZ]at this;unfold FM;refine x1t this ?_;unfold GA;rw[x0j,<-Uw];exact x2l _ _
def Zo(r:(XX p).1=0){f:Pr}(q:f∈p.A)(h:s∈FM f):s∈procsN p:=by
 have i:=J6.1 (NP h);obtain⟨t,m,rfl⟩:=x0n.1 i;obtain⟨n,o⟩:=x1s.1 m;exact(Gl r q n (by simpa using o)).1
def Fa{n:Str}(h:n∈procsN p):∃(k:Nat) (o:k<p.A.length),Xr (fun f=>f.name==n) p.A=k/\p.A.find? (fun f=>f.name==n)=some p.A[k]/\p.A[k].name=n:=by
 have q:p.A.any (fun f=>f.name==n)=true:=by
  obtain⟨f,i,m⟩:=x0n.1 h;exact x2e.2 ⟨f,i,by simp[m]⟩
 obtain⟨k,o,i,m,r⟩:=Ri q;exact⟨k,o,i,r,by simpa using m⟩
def Lr(p:Pg)(n:Str)(k:Nat)(D:k<p.A.length)(g:Xr (fun f=>f.name==n) p.A=k)(d:cntP p.A<=1000):SpecP prog 269 [.ip (sheetOf p).cells,.str n] (fun r=>r=eStrs (FM p.A[k])):=by
 refine sB Hf func269 rfl call269 ?_;conv=>whnf
 repeat' ((first|(refine iM fun _=>?_)|refine cP (XZ _ _) ?_|(refine CallK.pure (Ti p (j:=k) (f:=p.A[k]'D) (by simp) d) (.cons (Sub.refl _) (.cons (Sub.int (by exact g)) .nil)) ?_;rintro _ rfl));conv=>whnf)
 have m:=Q4 (k:Nat) 0 (-1) 0 (QR p.A k) p.A[k].body;have y:(itL (k:Nat) 0 (-1) 0 (QR p.A k) p.A[k].body).length<=1000:=by
  have:=(QJ p).2.2.2.2 k p.A[k] (by simp);rw[ZH];omega
 generalize z:itL (k:Nat) 0 (-1) 0 (QR p.A k) p.A[k].body=its at m y⊢;have B:=VU its;have u:GA p.A[k]=(its.filter fun o=>decide (o.s.kind=4)).map fun o=>o.s.C:=by
  unfold GA;rw[<-m,List.filter_map,x4i];rfl
 refine LoopK.inv QK (fun i:Nat×List Str=>⟨[(5,.hd 0 0 i.2.length),(12,.p (VC its)),(13,.p (.int .i64 (its.map fun i=>AV.agg i.cells).length)),(14,.p (.int .i64 i.1))],[(0,.own 9 1 (i.2.map .str))]⟩)
  (fun i=>i.1<=its.length/\i.2.length<=i.1/\i.2++((its.drop i.1).filter fun o=>decide (o.s.kind=4)).map (fun o=>o.s.C)=GA p.A[k]) (fun i=>its.length-i.1) (0,[])
  (Le.mk [(0,.own 9 1 [])] (by simp[Chunk.new0];rfl) (by simp) (by simp) (.cons (.nil x0k) (.r (.r (.r .nil)))) (.new x0k .nil))
  ⟨x0l _,x0o _,by rw[u];rfl⟩ ?_
 rintro⟨j,h⟩ ⟨a,c,q⟩;simp only at a c q⊢;rcases x0t j its.length with x|x
 .conv=>whnf
  repeat' (first|((first|refine x0h rfl ?_|refine aD ?_|refine bP ?_|(refine iA fun _=>?_)|refine wI ?_|refine XQ (by simp) (by simp;omega) ?_);conv=>whnf)|(apply bD<;>intro _<;>first|omega|conv=>whnf))
  .exact ⟨(j+1,h++[its[j].s.C]),⟨by simp only;omega,by simp;omega,by simp only;rw[<-q,QB x,x6s,if_pos (by simp[*])];simp⟩,by simp only;omega,Le.of_eq (by simp only[x0g,x0c];rfl)⟩
  .exact ⟨(j+1,h),⟨by simp only;omega,by simp only;omega,by simp only;rw[<-q,QB x,x6s,if_neg (by simp[*])]⟩,by simp only;omega,Le.of_eq rfl⟩
 .have t:h=GA p.A[k]:=by
   rw[x1q x]at q;simpa using q
  conv=>whnf
  repeat' (first|(apply bD<;>intro _<;>first|omega|conv=>whnf)|(refine CallK.heap [(1000,0)] 0 (by repeat' (first|exact x1m|refine x1x ?_ ?_|exact x1v _|exact x1d Sub.nils|exact x1d (Sub.tt rfl)|exact x1d (Sub.ff rfl)|exact x1d (Sub.int (by omega)))) (by refine x0e (j:=0) rfl rfl ?_ ?_;exact CSub.refl _;exact x1l) (HH h (by omega)) rfl rfl ?_;rintro l' H' ⟨rfl,rfl⟩;conv=>whnf)|(refine CallK.heap [(1000,0)] 0 (x1x (x5n (by rw[UZ];rfl)) x1m) (by refine x0e (j:=0) rfl rfl ?_ ?_;exact CSub.refl _;exact x1l) (KT (JN h) (by rw[UZ];omega)) rfl rfl ?_;rintro l' H' ⟨rfl,rfl⟩;conv=>whnf))
  exact⟨_,.hd rfl (by simp),by unfold FM;rw[<-t];rfl⟩
def YG(out:List Str):List Str->List Str
 |[]=>out
 |n::r=>YG (if(out.any fun s=>n==s)=true then out else out++[n]) r
def Vc{out:List Str}(h:j<l.length):YG out (l.drop j)=YG (if(out.any fun s=>l[j]==s)=true then out else out++[l[j]]) (l.drop (j+1)):=by
 rw[QB h,YG]
theorem DE{p:Pg}:∀(l:List Str){out:List Str},out.Nodup->(∀s∈out,s∈procsN p)->(∀s∈l,s∈procsN p)->(YG out l).Nodup/\(∀s∈YG out l,s∈procsN p)/\∃r,YG out l=out++r
 |[],out,h1,h2,_=>⟨h1,h2,[],by rw[YG];simp⟩
 | n::r,out,h1,h2,h3=>by
   rw[YG];split
   .exact DE r h1 h2 fun s h=>h3 s (x0f _ h)
   .rename_i z;have i:n∉out:=fun y=>z (x2e.2 ⟨n,y,by simp⟩);obtain⟨o,q,c,t⟩:=DE (p:=p) r (out:=out++[n]) (x2b.2 ⟨h1,by simp,fun a u b m=>by simp at m;subst m;exact fun x=>i (x▸u)⟩) (fun s h=>by
     rcases x0r.1 h with h|h
     .exact h2 s h
     .simp at h;subst h;exact h3 _ x0k) fun s h=>h3 s (x0f _ h)
    exact⟨o,q,n::c,by rw[t];simp⟩
def Kq(p:Pg)(n:Str):List Str:=match p.A.find? (fun f=>f.name==n)with
 |some f=>FM f
 |none=>[]
def GH(p:Pg):Nat->Nat->List Str->List Str
 |0,_,out=>out
 | fuel+1,i,out=>match out[i]?with
   |some n=>GH p fuel (i+1) (YG out (Kq p n))
   |none=>out
def Oc(p:Pg)(n:Str):List Str:=JN (GH p (p.A.length+1) 0 [n])
theorem HF{α:Type}[BEq α][LawfulBEq α]:∀{l m:List α},l.Nodup->(∀s∈l,s∈m)->l.length<=m.length
 |[],m,_,_=>x0l _
 | a::r,m,h1,h2=>by
   have h:=h2 a x0k;have:=HF (l:=r) (m:=m.erase a) (x2u.1 h1).2 fun s i=>(List.mem_erase_of_ne fun n=>(x2u.1 h1).1 (by rw[<-n];exact i)).2 (h2 s (x0f _ i));rw[List.length_erase_of_mem h]at this;have:=x6g h;simp only[x1r];omega
def SI{n:Str}(i:k<p.A.length)(h:p.A.find? (fun f=>f.name==n)=some p.A[k]):Kq p n=FM p.A[k]:=by
 unfold Kq;rw[h]
def P1(m:(XX p).1=0){n:Str}(h:s∈Kq p n):s∈procsN p:=by
 unfold Kq at h;split at h
 .rename_i f i;exact Zo m (x3l i) h
 .cases h
def AI(p:Pg)(n:Str)(I:(XX p).1=0)(V:n∈procsN p):SpecP prog 214 [.ip (sheetOf p).cells,.str n] (fun r=>r=eStrs (Oc p n)):=by
 refine sB Mg func214 rfl call214 ?_;conv=>whnf
 obtain⟨U,hb,hns⟩:=KV I;obtain⟨hg,hpl,O⟩:=WO U;have Z:(procsN p).length=p.A.length:=by simp[procsN]
 repeat' ((first|refine x0h rfl ?_|refine aD ?_|refine x6n (fun x hx=>by rcases x0b.1 hx with rfl;rfl) rfl ?_);conv=>whnf)
 refine LoopK.inv QK (fun i:Nat×List Str=>⟨[(0,.p (.ip (sheetOf p).cells)),(5,.hd 0 0 i.2.length),(6,.p (.int .i64 i.1))],[(0,.own 9 1 (i.2.map .str))]⟩)
  (fun i=>i.1<=i.2.length/\i.2.Nodup/\(∀s∈i.2,s∈procsN p)/\GH p (p.A.length+1-i.1) i.1 i.2=GH p (p.A.length+1) 0 [n]) (fun i=>p.A.length+1-i.1) (0,[n])
  (Le.of_eq rfl) ⟨x0l _,by simp,by simpa using V,rfl⟩ ?_
 rintro⟨j,out⟩ ⟨J,B,g,u⟩;simp only at J B g u⊢;have hol:=HF B g;rcases x0t j out.length with d|d
 .obtain ⟨k,G,F,E,Y⟩:=Fa (g _ (x0s d));have D:=TH p.A[k];have M:QW p.A[k].body<=200:=by
   have:=(QJ p).2.2.2.2 k p.A[k] (by simp);omega
  conv=>whnf
  repeat' (first|((first|(refine iM fun _=>?_)|refine x0h rfl ?_|refine x1i j rfl d ?_|refine x2t j 0 (.str out[j]) (by omega) (by simp[d]) ?_|(refine CallK.pure (Lr p out[j] k G F (by omega)) (.cons (Sub.refl _) (.cons (Sub.refl _) .nil)) ?_;rintro _ rfl));conv=>whnf)|(apply bD<;>intro _<;>first|omega|conv=>whnf))
  have f:∀s∈FM p.A[k],s∈procsN p:=fun s h=>Zo I (x0s G) h;have C:=SI G E;have t:GH p (p.A.length+1-j) j out=GH p (p.A.length+1-(j+1)) (j+1) (YG out (FM p.A[k])):=by
   rw[show p.A.length+1-j=(p.A.length+1-(j+1))+1 by omega,GH,x0u d];simp only;rw[C]
  rw[t]at u;obtain⟨z,a,rr,c⟩:=DE (FM p.A[k]) B g f;generalize FM p.A[k]=cs at f u z a c D⊢;have H:(cs.map AV.str).length=cs.length:=x0j _;refine LoopK.inv QK (fun i:Nat×List Str=>⟨[(0,.p (.ip (sheetOf p).cells)),(5,.hd 0 0 i.2.length),(6,.p (.int .i64 j)),(22,.p (eStrs cs)),(23,.p (.int .i64 (cs.map AV.str).length)),(24,.p (.int .i64 i.1))],[(0,.own 9 1 (i.2.map .str))]⟩)
   (fun i=>i.1<=cs.length/\i.2.length<=out.length+i.1/\YG i.2 (cs.drop i.1)=YG out cs) (fun i=>cs.length-i.1) (0,out)
   (Le.of_eq rfl) ⟨x0l _,by simp,rfl⟩ ?_
  rintro⟨m,q⟩ ⟨K,L,y⟩;simp only at K L y⊢;rcases x0t m cs.length with o|o
  .conv=>whnf
   repeat' (first|((first|refine x0h rfl ?_|refine aD ?_|refine bP ?_|(refine iA fun _=>?_)|refine wI ?_|(refine XM (QV q (cs[m]'o)) (.cons (.hd rfl (by simp)) (.cons (.p (Sub.refl _)) .nil)) (by rintro _ rfl;rfl) ?_;rintro _ rfl)|refine XQ (by simp) (by simp;omega) ?_);conv=>whnf)|(apply bD<;>intro _<;>first|omega|conv=>whnf)|(apply bN<;>intro _<;>conv=>whnf))
   .exact ⟨(m+1,q),⟨by simp only;omega,by simp only;omega,by simp only;rw[<-y,Vc o,if_pos (by assumption)]⟩,by simp only;omega,Le.of_eq rfl⟩
   .exact ⟨(m+1,q++[cs[m]]),⟨by simp only;omega,by simp;omega,by simp only;rw[<-y,Vc o,if_neg (by simp[*])]⟩,by simp only;omega,Le.of_eq (by simp only[x0g,x0c];rfl)⟩
  .rw [x1q o,YG]at y;subst y;have Q:out.length<=(YG out cs).length:=by rw[c];simp
   conv=>whnf
   repeat' (first|(refine wI ?_;conv=>whnf)|(apply bD<;>intro _<;>first|omega|conv=>whnf))
   exact⟨(j+1,YG out cs),⟨by simp only;omega,z,a,u⟩,by simp only;omega,Le.of_eq rfl⟩
 .have R:j=out.length:=by omega
  have t:GH p (p.A.length+1-j) j out=out:=by
   rw[show p.A.length+1-j=(p.A.length-j)+1 by omega,GH,x2f (by omega)]
  rw[t]at u;conv=>whnf
  repeat' (first|(refine iM fun _=>?_;conv=>whnf)|(apply bD<;>intro _<;>first|omega|conv=>whnf)|(refine CallK.heap [(1000,0)] 0 (by repeat' (first|exact x1m|refine x1x ?_ ?_|exact x1v _|exact x1d Sub.nils|exact x1d (Sub.tt rfl)|exact x1d (Sub.ff rfl)|exact x1d (Sub.int (by omega)))) (by refine x0e (j:=0) rfl rfl ?_ ?_;exact CSub.refl _;exact x1l) (HH out (by omega)) rfl rfl ?_;rintro l' H' ⟨rfl,rfl⟩;conv=>whnf))
  exact⟨_,.hd rfl (by simp[UZ]),by unfold Oc;rw[<-u];rfl⟩
mutual
theorem OQ:∀(x:X)(out:List Str),(Pj x out).length<=out.length+wX x
 | .mk op n name kids,out=>by
   rw[Pj,wX];have:=Cl kids (if op=2/\(out.any fun s=>name==s)=false then out++[name]else out);split at this
   ·rename_i h;rw[if_pos h];simp at this;omega
   ·rename_i h;rw[if_neg h];omega
theorem Cl:∀(l:List X)(out:List Str),(DQ l out).length<=out.length+wXs l
 |[],out=>by rw[DQ];omega
 | x::r,out=>by
   have h1:=OQ x out;have h2:=Cl r (Pj x out);rw[DQ,wXs];omega
end
def Vx(x:X):(XT x).length<=wX x:=by
 unfold XT;have:=OQ x [];cases CS x<;>simp at this⊢;exact this
theorem Yw:∀l:List Arg,(l.flatMap KX).length<=Zu l
 |[]=>by simp
 | a::r=>by
   have h:=Yw r;have i:=Vx a.x;simp only[x1o,x0g,Zu];have m:(KX a).length<=1+(XT a.x).length:=by
    unfold KX;cases a.ref<;>simp;omega
   omega
def IJ(t:S):(ZP t).length<=wS t:=by
 have h:=Yw t.args;have i:=Vx t.x;rw[Ef];have m:(DH t).length<=1+(XT t.x).length:=by
  unfold DH;cases(decide (t.kind≠10) && !(t.name==[]):Bool)<;>simp;omega
 unfold ZP;rw[x0g];omega
def Vs{b:Bool}(h:b=true):Sub (.bool b) .tt:=fun _ _ i=>by subst h;cases i;exact .tt
def Lt(p:Pg)(m:Fit p)(q:(XX p).1=0)(n:Str)(o:n∈procsN p):SpecP prog 213 [.agg p.cells,.str n] (fun r=>r=.tt):=by
 refine sB Hd func213 rfl call213 ?_;conv=>whnf
 repeat' (first|((first|refine cP (JD p m) ?_|refine cP (WK p.A 268 (.ip [.str n]) (fun f=>f.name==n) (Dg n)) ?_);conv=>whnf)|(apply bD<;>intro _<;>first|omega|conv=>whnf))
 have:p.A.any (fun f=>f.name==n)=true:=by
  obtain⟨f,h,i⟩:=x0n.1 o;exact x2e.2 ⟨f,h,by simp[i]⟩
 exact⟨_,.p (Vs this),rfl⟩
def Ce(p:Pg)(t:S):List Str:=(ZP t).filter fun v=>p.D.any fun s=>v==s
def Mo(p:Pg)(n:Str):List Str:=match p.A.find? (fun f=>f.name==n)with
 |some f=>(flL f.body).flatMap (Ce p)
 |none=>[]
def NS(p:Pg)(n:Str):List Str:=(Oc p n).flatMap (Mo p)
def NT(p:Pg)(n:Str):List Str:=Go.Lib.compact (JN (NS p n))
theorem Gg{p:Pg}(m:(XX p).1=0):∀(fuel i:Nat)(out:List Str),out.Nodup->(∀s∈out,s∈procsN p)->(GH p fuel i out).Nodup/\∀s∈GH p fuel i out,s∈procsN p
 |0,i,out,h1,h2=>by rw[GH];exact⟨h1,h2⟩
 | fuel+1,i,out,h1,h2=>by
   rw[GH];split
   .obtain ⟨n,o,_⟩:=DE (Kq p _) h1 h2 fun s h=>P1 m h;exact Gg m fuel (i+1) _ n o
   .exact ⟨h1,h2⟩
def EG(q:(XX p).1=0){n:Str}(o:n∈procsN p):(Oc p n).length<=p.A.length/\∀s∈Oc p n,s∈procsN p:=by
 obtain⟨m,i⟩:=Gg q (p.A.length+1) 0 [n] (by simp) (by simpa using o);unfold Oc;rw[UZ];refine⟨?_,fun s h=>i s (J6.1 h)⟩;have:=HF m i;simpa[procsN]using this
def JE{β:Type}{f:α->List β}{l:List α}(h:j<l.length):(l.drop j).flatMap f=f l[j]++(l.drop (j+1)).flatMap f:=by
 rw[QB h,x1o]
def Dk(p:Pg)(hf:Fit p)(G:(XX p).1=0)(n:Str)(V:n∈procsN p):SpecP prog 156 [.agg p.cells,.str n] (fun r=>r=eStrs (NT p n)):=by
 refine sB Vp func156 rfl call156 ?_;conv=>whnf
 obtain⟨F,hb,hns⟩:=KV G;obtain⟨hg,hpl,hcn⟩:=WO F;repeat' ((first|(refine iM fun _=>?_)|refine cP (Lt p hf G n V) ?_|refine cP (AI p n G V) ?_|(refine CallK.pure (JI p (by omega) (by omega)) (.cons (Sub.refl _) .nil) ?_;rintro _ rfl));conv=>whnf)
 obtain⟨I,g⟩:=EG G V;have L:NT p n=Go.Lib.compact (JN (NS p n)):=rfl;have B:NS p n=(Oc p n).flatMap (Mo p):=rfl;rw[L];generalize Oc p n=ns at I g B⊢;have hnl:(ns.map AV.str).length=ns.length:=x0j _;refine LoopK.inv QK (fun i:Nat×List Str=>⟨[(2,.p (.ip p.cells)),(5,.p (.ip (sheetOf p).cells)),(6,.hd 0 0 i.2.length),(21,.p (eStrs ns)),(22,.p (.int .i64 (ns.map AV.str).length)),(23,.p (.int .i64 i.1))],[(0,.own 9 1 (i.2.map .str))]⟩)
  (fun i=>i.1<=ns.length/\i.2.length<=4000000*i.1/\i.2++(ns.drop i.1).flatMap (Mo p)=NS p n) (fun i=>ns.length-i.1) (0,[])
  (Le.mk [(0,.own 9 1 [])] (by simp[Chunk.new0];rfl) (by simp) (by simp) (.r (.r (.cons (.nil x0k) (.r (.r (.r .nil)))))) (.new x0k .nil))
  ⟨x0l _,by simp,by rw[B];rfl⟩ ?_
 rintro⟨j,o⟩ ⟨h2,h3,a⟩;simp only at h2 h3 a⊢;rcases x0t j ns.length with E|E;rotate_left 1
 .have d:o=NS p n:=by
   rw[x1q E]at a;simpa using a
  rw[<-d];conv=>whnf
  repeat' (first|(apply bD<;>intro _<;>first|omega|conv=>whnf)|(refine CallK.heap [(1000,0)] 0 (by repeat' (first|exact x1m|refine x1x ?_ ?_|exact x1v _|exact x1d Sub.nils|exact x1d (Sub.tt rfl)|exact x1d (Sub.ff rfl)|exact x1d (Sub.int (by omega)))) (by refine x0e (j:=0) rfl rfl ?_ ?_;exact CSub.refl _;exact x1l) (HH o (by omega)) rfl rfl ?_;rintro l' H' ⟨rfl,rfl⟩;conv=>whnf)|(refine CallK.heap [(1000,0)] 0 (x1x (x5n (by rw[UZ];rfl)) x1m) (by refine x0e (j:=0) rfl rfl ?_ ?_;exact CSub.refl _;exact x1l) (KT (JN o) (by rw[UZ];omega)) rfl rfl ?_;rintro l' H' ⟨rfl,rfl⟩;conv=>whnf))
  exact⟨_,.hd rfl (by simp),rfl⟩
 obtain⟨k,hk,R,J,hnk⟩:=Fa (g _ (x0s E));have M:Mo p ns[j]=(flL p.A[k].body).flatMap (Ce p):=by unfold Mo;rw[J]
 rw[JE E,M]at a;have K:=hf.pr (x0s hk);have C:p.A[k]?=some p.A[k]:=by simp
 conv=>whnf
 repeat' (first|((first|(refine iM fun _=>?_)|refine cP (XZ _ _) ?_|(refine iA fun _=>?_)|(refine CallK.pure (Ti p (j:=k) (f:=p.A[k]'hk) C (by omega)) (.cons (Sub.refl _) (.cons (Sub.int (by exact R)) .nil)) ?_;rintro _ rfl));conv=>whnf)|(apply bD<;>intro _<;>first|omega|conv=>whnf))
 have z:=Q4 (k:Nat) 0 (-1) 0 (QR p.A k) p.A[k].body;have x:∀m (F:m<(itL (k:Nat) 0 (-1) 0 (QR p.A k) p.A[k].body).length),wS (itL (k:Nat) 0 (-1) 0 (QR p.A k) p.A[k].body)[m].s<=20000:=fun m F=>by
  have U:(itL (k:Nat) 0 (-1) 0 (QR p.A k) p.A[k].body)[m].s∈flL p.A[k].body:=by
   rw[<-z];exact x0n.2 ⟨_,x0s F,rfl⟩
  have:=Ml _ _ U;unfold wPr at K;omega
 have Q:(itL (k:Nat) 0 (-1) 0 (QR p.A k) p.A[k].body).length<=200:=by
  have:=(QJ p).2.2.2.2 k p.A[k] C;rw[ZH];omega
 rw[<-z]at a;generalize hits:itL (k:Nat) 0 (-1) 0 (QR p.A k) p.A[k].body=its at x Q a⊢;have hil:=VU its;refine LoopK.inv QK (fun i:Nat×List Str=>⟨[(2,.p (.ip p.cells)),(5,.p (.ip (sheetOf p).cells)),(6,.hd 0 0 i.2.length),(21,.p (eStrs ns)),(22,.p (.int .i64 (ns.map AV.str).length)),(23,.p (.int .i64 j)),(31,.p (VC its)),(32,.p (.int .i64 (its.map fun i=>AV.agg i.cells).length)),(33,.p (.int .i64 i.1))],[(0,.own 9 1 (i.2.map .str))]⟩)
  (fun i=>i.1<=its.length/\i.2.length<=o.length+20000*i.1/\i.2++(((its.drop i.1).map Item.s).flatMap (Ce p)++(ns.drop (j+1)).flatMap (Mo p))=NS p n) (fun i=>its.length-i.1) (0,o)
  (Le.of_eq rfl) ⟨x0l _,by simp,a⟩ ?_
 rintro⟨m,t⟩ ⟨h6,h7,c⟩;simp only at h6 h7 c⊢;rcases x0t m its.length with y|y;rotate_left 1
 .rw [x1q y]at c;conv=>whnf
  repeat' (first|(refine wI ?_;conv=>whnf)|(apply bD<;>intro _<;>first|omega|conv=>whnf))
  exact⟨(j+1,t),⟨by simp only;omega,by simp only;omega,by simpa using c⟩,by simp only;omega,Le.of_eq rfl⟩
 have hw:=x m y;have Y:its[m].s.args.length<=20000:=by
  have:=Ef its[m].s;have:=Qt its[m].s.args;omega
 have Z:=IJ its[m].s;rw[x1c y,x1j,x1o,x1k]at c;have O:Ce p its[m].s=(ZP its[m].s).filter fun v=>p.D.any fun s=>v==s:=rfl;conv=>whnf
 repeat' (first|((first|(refine iM fun _=>?_)|refine cP (Kg _ Y) ?_|refine x0h rfl ?_|(refine iA fun _=>?_));conv=>whnf)|(apply bD<;>intro _<;>first|omega|conv=>whnf))
 rw[O]at c;generalize ZP its[m].s=vs at Z c⊢;have hvl:(vs.map AV.str).length=vs.length:=x0j _;refine LoopK.inv QK (fun i:Nat×List Str=>⟨[(2,.p (.ip p.cells)),(5,.p (.ip (sheetOf p).cells)),(6,.hd 0 0 i.2.length),(21,.p (eStrs ns)),(22,.p (.int .i64 (ns.map AV.str).length)),(23,.p (.int .i64 j)),(31,.p (VC its)),(32,.p (.int .i64 (its.map fun i=>AV.agg i.cells).length)),(33,.p (.int .i64 m)),(39,.p (eStrs vs)),(40,.p (.int .i64 (vs.map AV.str).length)),(41,.p (.int .i64 i.1))],[(0,.own 9 1 (i.2.map .str))]⟩)
  (fun i=>i.1<=vs.length/\i.2.length<=t.length+i.1/\i.2++((vs.drop i.1).filter (fun v=>p.D.any fun s=>v==s)++(((its.drop (m+1)).map Item.s).flatMap (Ce p)++(ns.drop (j+1)).flatMap (Mo p)))=NS p n) (fun i=>vs.length-i.1) (0,t)
  (Le.of_eq rfl) ⟨x0l _,by simp,c⟩ ?_
 rintro⟨q,u⟩ ⟨h9,H,h⟩;simp only at h9 H h⊢;rcases x0t q vs.length with hq|hq
 .rw [x1c hq,x6s]at h;conv=>whnf
  repeat' (first|((first|refine cP (QV _ _) ?_|refine x0h rfl ?_|refine aD ?_|refine bP ?_|(refine iA fun _=>?_)|refine wI ?_|refine XQ (by simp) (by simp;omega) ?_);conv=>whnf)|(apply bD<;>intro _<;>first|omega|conv=>whnf)|(apply bB<;>intro _<;>conv=>whnf))
  .exact ⟨(q+1,u++[vs[q]]),⟨by simp only;omega,by simp;omega,by rw[if_pos (by assumption)]at h;simpa using h⟩,by simp only;omega,Le.of_eq (by simp only[x0g,x0c];rfl)⟩
  .exact ⟨(q+1,u),⟨by simp only;omega,by simp only;omega,by rw[if_neg (by simp[*])]at h;exact h⟩,by simp only;omega,Le.of_eq rfl⟩
 .rw [x1q hq]at h;conv=>whnf
  repeat' (first|(refine wI ?_;conv=>whnf)|(apply bD<;>intro _<;>first|omega|conv=>whnf))
  exact⟨(m+1,u),⟨by simp only;omega,by simp only;omega,by simpa using h⟩,by simp only;omega,Le.of_eq rfl⟩
section
variable {P:Program}{T:Tab}{N:Nat}
def YK(s:List UInt8):Value:=.string ⟨s.toArray⟩
def Er(l:List (List UInt8×AV)):XC:=.map (l.map fun x=>(YK x.1,x.2))
def PN{α:Type}(l:List (List UInt8×α))(k:List UInt8)(v:α):List (List UInt8×α):=
 match l with
 |[]=>[(k,v)]
 |x::r=>if k=x.1 then(x.1,v)::r else x::PN r k v
def M4{α:Type}(l:List (List UInt8×α))(k:List UInt8):Option α:=(l.find? fun x=>decide (k=x.1)).map (·.2)
def U4(h:Zi es clock){e:MapEntry}(o:e.born=clock):Zi (es.push e) (clock+1):=by
 refine⟨?_,fun x i=>?_⟩
 .rw [Array.toList_push,x0c,x2b];refine⟨h.1,by simp,fun a m b n=>?_⟩;obtain⟨x,i,rfl⟩:=x0n.1 m;have:=h.2 x i;simp only[x1j,x5j,x0b]at n;omega
 .rw [Array.toList_push]at i;rcases x0r.1 i with i|i
  .have:=h.2 x i;omega
  .rw [x0b.1 i,o];omega
theorem Gq{α β:Type}(g:α->β)(f:α->α)(h:∀x,g (f x)=g x):∀(l:List α)(j:Nat),(l.modify j f).map g=l.map g
 |[],j=>by simp
 |x::r,0=>by simp[h]
 |x::r,j+1=>by simp[Gq g f h r j]
def LH(h:Zi es clock)(j:Nat){f:MapEntry->MapEntry}(o:∀e,(f e).born=e.born):Zi (es.modify j f) clock:=by
 have e:(es.modify j f).toList.map (·.born)=es.toList.map (·.born):=by
  rw[Array.toList_modify];exact Gq _ f o _ j
 refine⟨by rw[e];exact h.1,fun x q=>?_⟩;have i:x.born∈(es.modify j f).toList.map (·.born):=x0n.2 ⟨x,q,rfl⟩;rw[e]at i;obtain⟨y,m,n⟩:=x0n.1 i;rw[<-n];exact h.2 y m
theorem OpK.makeMap{s:St}{o:Oper}{K:St->Prop}{t:TypeId}(q:o.op=.makeMap t none)(h:HL 60 0 s fun k=>setD N s.sl o.dst (.ext k .map) fun sl=>K ⟨sl,(k,.ext (Er []))::s.H⟩):OpK P N s o K:=by
 refine⟨fun σ β a w f Q=>?_⟩;obtain⟨k,z,h⟩:=UB h;have i:(Chunk.ext (Er [])).holds σ (β.set k (some ⟨w.heap.size,0,0,[],x0l _⟩)) (w.alloc (.map #[] 0)) k:=
  ⟨⟨w.heap.size,0,0,[],x0l _⟩,#[],0,by simp[Lab.set],heap_alloc_new w _,⟨.nil,fun x g=>by cases g⟩,rfl,by simp⟩
 obtain⟨r,c⟩:=f.new z rfl rfl i;obtain⟨sl,y,m⟩:=r.setD (v:=.ext k .map) (u:=.map (some w.heap.size)) (.ext k .map ⟨w.heap.size,0,0,[],x0l _⟩ _ (by simp[Lab.set]) rfl) h;exact XI (w':=w.alloc (.map #[] 0)) (by simp[execOp,q,Instr.makeMap]) ⟨σ,_,_,y,m,c⟩
def U5(a b:List UInt8):((⟨a.toArray⟩:ByteArray)==⟨b.toArray⟩)=decide (a=b):=by
 show(a.toArray==b.toArray)=decide (a=b);by_cases h:a=b
 .subst h;simp
 .simp [h]
theorem FT{α:Type}(k:List UInt8):∀(es:List MapEntry)(l:List (List UInt8×α))(i:Nat),es.map (·.key)=l.map (fun x=>YK x.1)->
  Instr.findNow .string (YK k) es i=some (match l.findIdx? fun x=>decide (k=x.1)with
   |some j=>some (i+j,(es[j]?.map (·.val)).getD undef)
   |none=>none)
 |[],[],_,_=>rfl
 |[],_::_,_,h=>by cases h
 |_::_,[],_,h=>by cases h
 | e::es,x::l,i,h=>by
   simp only[x1j,List.cons.injEq]at h;have n:Instr.sameNow .string (YK k) e.key=some (decide (k=x.1)):=by
    rw[h.1];show some ((⟨k.toArray⟩:ByteArray)==⟨x.1.toArray⟩)=_;rw[U5]
   rw[Instr.findNow,n,findIdx?_cons];by_cases m:k=x.1
   .simp [m]
   .simp only[m,decide_false];rw[FT k es l (i+1) h.2];cases l.findIdx? fun x=>decide (k=x.1)with
    |none=>rfl
    |some j=>simp;omega
def W2{l:List (List UInt8×AV)}(n:es.size=(l.map fun x=>(YK x.1,x.2)).length)(o:∀(m:Nat)(x:Value×AV),(l.map fun x=>(YK x.1,x.2))[m]?=some x->∃e:MapEntry,es[m]?=some e/\e.key=x.1/\Rep σ x.2 e.val):
  es.toList.map (·.key)=l.map (fun x=>YK x.1):=by
 apply x6d;intro m;rw[x0d,x0d];cases i:l[m]?with
 | none=>
   have:es.toList[m]?=none:=by
    rw[List.getElem?_eq_none_iff]at i⊢;simp at n⊢;omega
   rw[this];rfl
 | some x=>
   obtain⟨e,q,r,_⟩:=o m (YK x.1,x.2) (by simp[i]);have h:es.toList[m]?=some e:=by simpa using q
   rw[h];simp[r]
def YC{P:Program}{t:TypeId}(h:P.underlying t=some .string)(b:Bool)(k:List UInt8)(w:World):(Instr.checkKey b 10000 t (YK k)).run P w=.ok () w:=by
 have e:Instr.checkKey b 10000 t (YK k)=Instr.checkKey b (9999+1) t (YK k):=rfl;rw[e,Instr.checkKey,Sem.run_bind,run_underlying h,Result.andThen_ok];rfl
def Tv{l:List UInt8}(h:RepL σ β (.p (.str l)) v):v=YK l:=h.strV.1
def UP{P:Program}{r:Nat}(h:w.heap[r]?=some (.map es clock)):(getObj r).run P w=.ok (.map es clock) w:=by simp[getObj,Sem.run,h]
def BL{P:Program}{r:Nat}(o:Obj)(h:w.heap[r]?=some (.map es clock)):(setObj r o).run P w=.ok () {w with heap:=w.heap.setIfInBounds r o}:=by simp[setObj,Sem.run,h]
theorem OpK.lookup(hT:TabOK P T){s:St}{o:Oper}{K:St->Prop}{t:TypeId}{x ix:Operand}(hop:o.op=.lookup t x ix false){k:Nat}(hx:QL s.sl x=.ext k .map){l:List (List UInt8×AV)}(hg:getH s.H k=some (.ext (Er l))){c:List UInt8}(hk:QL s.sl ix=.p (.str c)){i ik:TyI}{kt et:TypeId}(ht:T.get t=some i)(hd:i.desc=.map kt et)(htk:T.get kt=some ik)(M:ik.desc=.string){v:AV}(B:M4 l c=some v)(h:setD N s.sl o.dst (.p v) fun sl=>K ⟨sl,s.H⟩):OpK P N s o K:=by
 refine⟨fun σ β a w C Q=>?_⟩;have z:=QZ C.E x;have f:=QZ C.E ix;rw[hx]at z;rw[hk]at f;have Y:=Tv f;generalize hxe:a.eval x=xv at z;cases z with
 | ext _ _ bi _ J L=>
   obtain rfl:xv=.map (some bi.blk):=L;obtain⟨bi',es,clock,q,hh,hbo,h1,h2⟩:=C.heap.chunks k _ (QD hg);rw[J]at q;cases q;have r:=W2 h1 h2;have hu:=hT.of ht;have u:=hT.of htk;rw[hd]at hu;rw[M]at u;obtain⟨j,hj,V⟩ : ∃j,(l.findIdx? fun x=>decide (c=x.1))=some j/\∃x,l[j]?=some x/\x.2=v:=by
    unfold M4 at B;cases O:l.find? fun x=>decide (c=x.1)with
    |none=>rw[O]at B;cases B
    | some x=>
      rw[O]at B;cases B;obtain⟨D,j,g,G,I⟩:=List.find?_eq_some_iff_getElem.1 O;refine⟨j,?_,x,by rw[x0u g,G],rfl⟩;rw[List.findIdx?_eq_some_iff_getElem];exact⟨g,by rw[G];exact D,fun i hi=>by simpa using I i hi⟩
   obtain⟨y,U,rfl⟩:=V;obtain⟨e,D,G,I⟩:=h2 j (YK y.1,y.2) (by simp[U]);have m:=FT c es.toList l 0 r;rw[hj]at m;have F:es.toList[j]?=some e:=by simpa using D
   simp only[F,x4y,x2k]at m;have A:(execOp a.eval o).run P w=.ok (.value e.val) w:=by
    have R:(Instr.findKey kt (YK c) es.toList).run P w=.ok (some (0+j,e.val)) w:=by
     unfold Instr.findKey;rw[Sem.run_bind,run_underlying u,Result.andThen_ok,m];rfl
    have Z:(Instr.lookup t (.map (some bi.blk)) (YK c) false).run P w=.ok e.val w:=by
     unfold Instr.lookup;rw[Sem.run_bind,run_underlying hu,Result.andThen_ok];simp only[Sem.run_bind,UP hh,Result.andThen_ok,Sem.run_pure,YC u,R];rfl
    simp only[execOp,hop,hxe,Y,Sem.run_bind,Z,Result.andThen_ok];rfl
   obtain⟨sl,hK,hr'⟩:=C.setD (.p I) h;exact XI A ⟨σ,β,_,hK,hr',Later.refl _ _ _ _⟩
def Jw{l:List (List UInt8×α)}{k:List UInt8}{v:α}(h:(l.findIdx? fun x=>decide (k=x.1))=none):PN l k v=l++[(k,v)]:=by
 induction l with
 |nil=>rfl
 | cons x r m=>
   rw[findIdx?_cons]at h;by_cases i:k=x.1
   .simp [i]at h
   .simp [i]at h;rw[PN,if_neg i,m (by simpa using h)];rfl
def M1{l:List (List UInt8×α)}{k:List UInt8}{v:α}(h:(l.findIdx? fun x=>decide (k=x.1))=some j):∃x,l[j]?=some x/\PN l k v=l.set j (x.1,v):=by
 induction l generalizing j with
 |nil=>cases h
 | cons x r q=>
   rw[findIdx?_cons]at h;by_cases i:k=x.1
   .simp [i]at h;subst h;exact⟨x,rfl,by rw[PN,if_pos i];rfl⟩
   .simp [i]at h;obtain⟨t,m,rfl⟩:=h;obtain⟨y,n,o⟩:=q m;exact⟨y,by simpa using n,by rw[PN,if_neg i,o];rfl⟩
theorem OpK.mapUpdate(hT:TabOK P T){s:St}{o:Oper}{K:St->Prop}{t:TypeId}{x ix vx:Operand}(hop:o.op=.mapUpdate t x ix vx)(F:o.dst=none){k:Nat}(hx:QL s.sl x=.ext k .map){l:List (List UInt8×AV)}(hg:getH s.H k=some (.ext (Er l))){f:List UInt8}(hk:QL s.sl ix=.p (.str f)){v:AV}(hvx:QL s.sl vx=.p v){i ik:TyI}{kt et:TypeId}(ht:T.get t=some i)(hd:i.desc=.map kt et)(htk:T.get kt=some ik)(hdk:ik.desc=.string)(h:Ja s.H k (.ext (Er (PN l f v))) fun H=>K ⟨s.sl,H⟩):OpK P N s o K:=by
 refine⟨fun σ β a w A Q=>?_⟩;have hx':=QZ A.E x;have hk':=QZ A.E ix;have hv':=QZ A.E vx;rw[hx]at hx';rw[hk]at hk';rw[hvx]at hv';have hkv:=Tv hk';generalize hxe:a.eval x=xv at hx';generalize hve:a.eval vx=vv at hv';cases hv' with
 |p hvr=>
 cases hx' with
 | ext _ _ B _ D hd'=>
   obtain rfl:xv=.map (some B.blk):=hd';obtain⟨bi',es,clock,M,hh,hbo,O,h2⟩:=A.heap.chunks k _ (QD hg);rw[D]at M;cases M;have hkeys:=W2 O h2;have hu:=hT.of ht;have I:=hT.of htk;rw[hd]at hu;rw[hdk]at I;have u:=FT f es.toList l 0 hkeys;have G:=QM hg;have hlt:=(A.heap.apart k G B D B.blk B.has_blk).2;obtain⟨es',q,hrun,hbo',hsz,hent⟩ : ∃es' q,(Instr.mapUpdate t (.map (some B.blk)) (YK f) vv).run P w=.ok () {w with heap:=w.heap.setIfInBounds B.blk (.map es' q)}/\Zi es' q/\es'.size=(PN l f v).length/\
     ∀(m:Nat)(x:Value×AV),((PN l f v).map fun x=>(YK x.1,x.2))[m]?=some x->∃e:MapEntry,es'[m]?=some e/\e.key=x.1/\Rep σ x.2 e.val:=by
    cases g:l.findIdx? fun x=>decide (f=x.1)with
    | none=>
      rw[g]at u;refine⟨es.push {key:=YK f,val:=vv,born:=clock},clock+1,?_,U4 hbo rfl,?_,fun m y L=>?_⟩
      .have V:(Instr.findKey kt (YK f) es.toList).run P w=.ok none w:=by
        unfold Instr.findKey;rw[Sem.run_bind,run_underlying I,Result.andThen_ok,u];rfl
       unfold Instr.mapUpdate;rw[Sem.run_bind,run_underlying hu,Result.andThen_ok];simp only[Sem.run_bind,UP hh,Result.andThen_ok,Sem.run_pure,YC I,V,BL _ hh]
      .rw [Jw g];simpa using O
      .rw [Jw g]at L;simp only[x0j]at O;rw[x0c,x4v]at L;split at L
       .rename_i J;obtain⟨e,C,h4⟩:=h2 m y L;simp only[x0j]at J;exact⟨e,by rw[x6q,if_neg (by omega)];exact C,h4⟩
       .rename_i J;simp only[x0j]at J L;have hm0:m-l.length=0:=by
         have:=(x0m.1 L).1;simp at this;omega
        rw[hm0]at L;simp at L;subst L;exact⟨{key:=YK f,val:=vv,born:=clock},by rw[x6q,if_pos (by omega)],rfl,hvr⟩
    | some j=>
      rw[g]at u;obtain⟨y,hy1,hy2⟩:=M1 (v:=v) g;obtain⟨e,C,h4,h5⟩:=h2 j (YK y.1,y.2) (by simp[hy1]);have hky:f=y.1:=by
       obtain⟨hlt,R,_⟩:=List.findIdx?_eq_some_iff_getElem.1 g;rw[x0u hlt]at hy1;cases hy1;simpa using R
      have h3':es.toList[j]?=some e:=by simpa using C
      have hjlt:j<es.size:=(x1y.1 C).1;simp only[h3',x4y,x2k,x3v]at u;have hek:e.key=YK f:=by rw[h4,hky]
      refine⟨es.modify j fun e=>{e with key:=YK f,val:=vv},clock,?_,LH hbo j fun _=>rfl,?_,fun m z hz=>?_⟩
      .have V:(Instr.findKey kt (YK f) es.toList).run P w=.ok (some (j,e.val)) w:=by
        unfold Instr.findKey;rw[Sem.run_bind,run_underlying I,Result.andThen_ok,u];rfl
       have hkt:(Instr.keyThatStays (((es[j]?).map (·.key)).getD (YK f)) (YK f)).run P w=.ok (YK f) w:=by
        rw[C];simp only[x4y,x2k,hek];unfold Instr.keyThatStays;have:Instr.sameBits 10000 (YK f) (YK f)=true:=by
         unfold YK;show((⟨f.toArray⟩:ByteArray)==⟨f.toArray⟩)=true;rw[U5];simp
        rw[if_pos this];rfl
       unfold Instr.mapUpdate;rw[Sem.run_bind,run_underlying hu,Result.andThen_ok];simp only[Sem.run_bind,UP hh,Result.andThen_ok,Sem.run_pure,YC I,V,hkt,BL _ hh]
      .rw [hy2];simpa using O
      .rw [hy2,x2y]at hz;by_cases J:m=j
       .subst J;rw[x2p (by simp at O⊢;omega)]at hz;cases hz;exact⟨{e with key:=YK f,val:=vv},by simp[x4f,C],by rw[hky],hvr⟩
       .rw [x2i (x4g J)]at hz;obtain⟨e',R,h7⟩:=h2 m z hz;exact⟨e',by rw[x4f,if_neg (x4g J)];exact R,h7⟩
   have hrun':(execOp a.eval o).run P w=.ok .skip {w with heap:=w.heap.setIfInBounds B.blk (.map es' q)}:=by
    simp only[execOp,hop,hxe,hkv,hve,Sem.run_bind,hrun,Result.andThen_ok];rfl
   obtain⟨H',hK,C,h4,h5⟩:=YA A.heap.nodup h;have hot:∀b,b≠B.blk->({w with heap:=w.heap.setIfInBounds B.blk (.map es' q)}:World).heap[b]?=w.heap[b]?:=fun b U=>x4w (x4g U);have Y:HRel σ β H' {w with heap:=w.heap.setIfInBounds B.blk (.map es' q)}:=by
    refine⟨fun b c U=>?_,fun j c g=>?_,by rw[C];exact A.heap.nodup,fun j g i' Z b U=>?_,fun j g j' hj'=>A.heap.inj j (C▸g) j' (C▸hj')⟩
    .obtain ⟨e,fr,R⟩:=A.heap.mem b c U;exact⟨e,fr,(hot b fun he=>by rw[he,hh]at R;cases R).trans R⟩
    .by_cases hjk:j=k
     .subst hjk;rw[h5 c g];exact⟨B,es',q,D,by simp[hlt],hbo',by simpa using hsz,hent⟩
     .have J:=h4 j c g hjk;exact(A.heap.chunks j c J).mono (Mem.le_refl σ) fun i' Z b U=>hot b fun he=>hjk (A.heap.inj j (x0n.2 ⟨_,J,rfl⟩) k G i' B Z D b U (.inl he.symm))
    .have:=A.heap.apart j (C▸g) i' Z b U;exact⟨this.1,by simpa using this.2⟩
   refine Vg hrun' ⟨σ,β,⟨s.sl,H'⟩,hK,⟨?_,?_,?_,Y⟩,Mem.le_refl σ,⟨rfl,rfl,rfl,x0o _,by simp,fun b _ hn=>hot b fun he=>hn ⟨k,G,B,D,.inl he.symm⟩⟩,fun b h0 O=>absurd h0 O,fun b ⟨j,g,r⟩=>.inl ⟨j,C▸g,r⟩,fun _ _ _=>rfl⟩
   .rw [F];exact A.size
   .rw [F];exact A.defers
   .rw [F];exact A.E
end
def WM(i:Str)(h:List Str):List Arg->List Str->Bool
 |[],_=>true
 |a::r,seen=>bif a.ref then bif (seen.any fun s=>a.name==s)||((a.name==i)||h.any fun s=>a.name==s)then false else WM i h r (seen++[a.name])else WM i h r seen
def Bl(t:S)(h:List Str)(x:t.args.length<=20000):SpecP prog 157 [.agg t.cells,eStrs h] (fun r=>r=.bool (WM t.name h t.args [])):=by
 refine sB Jk func157 rfl call157 ?_;conv=>whnf
 repeat' (refine iM fun _=>?_;conv=>whnf)
 have y:(t.args.map fun a=>AV.agg a.cells).length=t.args.length:=x0j _;refine LoopK.inv QK (fun i:Nat×List Str=>⟨[(1,.p (eStrs h)),(2,.p (.ip t.cells)),(5,.hd 0 0 i.2.length),(9,.p (.sl (t.args.map fun a=>.agg a.cells))),(10,.p (.int .i64 (t.args.map fun a=>AV.agg a.cells).length)),(11,.p (.int .i64 i.1))],[(0,.own 9 1 (i.2.map .str))]⟩)
  (fun i=>i.1<=t.args.length/\i.2.length<=i.1/\WM t.name h (t.args.drop i.1) i.2=WM t.name h t.args []) (fun i=>t.args.length-i.1) (0,[])
  (Le.mk [(0,.own 9 1 [])] (by simp[Chunk.new0];rfl) (by simp) (by simp) (.r (.r (.cons (.nil x0k) (.r (.r (.r .nil)))))) (.new x0k .nil))
  ⟨x0l _,x0o _,rfl⟩ ?_
 rintro⟨j,m⟩ ⟨q,u,n⟩;simp only at q u n⊢;rcases x0t j t.args.length with o|o
 .rw [x1c o,WM]at n;conv=>whnf
  repeat' (first|((first|refine cP (QV _ _) ?_|refine x0h rfl ?_|refine aD ?_|refine bP ?_|(refine iA fun _=>?_)|refine wI ?_|(refine XM (QV m (t.args[j]'o).name) (.cons (.hd rfl (by simp)) (.cons (.p (Sub.refl _)) .nil)) (by rintro _ rfl;rfl) ?_;rintro _ rfl)|refine XQ (by simp) (by simp;omega) ?_);conv=>whnf)|(apply bD<;>intro _<;>first|omega|conv=>whnf)|(apply bN<;>intro _<;>conv=>whnf)|(apply bB<;>intro _<;>conv=>whnf))
  all_goals first
   |exact RetK.ff (by rw[<-n];simp[*])
   |exact⟨(j+1,m++[t.args[j].name]),⟨by simp only;omega,by simp;omega,by simp only;rw[<-n];simp[*]⟩,by simp only;omega,Le.of_eq (by simp only[x0g,x0c];rfl)⟩
   |exact⟨(j+1,m),⟨by simp only;omega,by simp only;omega,by simp only;rw[<-n];simp[*]⟩,by simp only;omega,Le.of_eq rfl⟩
 .rw [x1q o,WM]at n;conv=>whnf
  repeat' (apply bD<;>intro _<;>first|omega|conv=>whnf)
  exact RetK.tt n.symm
def LY(p:Pg):Int×Int:=
 if(UT p).1≠0 then(1,0)else match(YQ p).find? fun t=>decide (t.kind=4) && !WM t.name (NT p t.C) t.args []with
  |some t=>(8,t.id)
  |none=>(0,0)
def EP(h:(UT p).1=0):(XX p).1=0/\(YQ p).find? (fun t=>decide (t.kind=4) && !FS p t)=none:=by
 unfold UT at h;split at h
 .cases h
 .rename_i i;refine⟨by omega,?_⟩;split at h
  .cases h
  .assumption
def Od{l:List (Str×AV)}{k:Str}{v:AV}{x:Str×AV}(h:x∈PN l k v):x∈l\/x=(k,v):=by
 induction l with
 |nil=>rw[PN]at h;exact .inr (by simpa using h)
 | cons y r m=>
   rw[PN]at h;split at h
   .rename_i i;rcases x0p.1 h with h|h
    .exact .inr (by rw[h,i])
    .exact .inl (x0f _ h)
   .rcases x0p.1 h with h|h
    .exact .inl (by rw[h];exact x0k)
    .exact (m h).imp (x0f _) id
def Of{l:List (Str×AV)}{k:Str}{v:AV}(h:s=k\/∃x∈l,x.1=s):∃x∈PN l k v,x.1=s:=by
 induction l with
 | nil=>
   rcases h with rfl|⟨x,i,_⟩
   .exact ⟨(s,v),by rw[PN];exact x0k,rfl⟩
   .cases i
 | cons y r o=>
   rw[PN];split
   .rename_i q;rcases h with rfl|⟨x,i,rfl⟩
    .exact ⟨(y.1,v),x0k,q.symm⟩
    .rcases x0p.1 i with rfl|i
     .exact ⟨(x.1,v),x0k,rfl⟩
     .exact ⟨x,x0f _ i,rfl⟩
   .rcases h with rfl|⟨x,i,rfl⟩
    .obtain ⟨z,n,m⟩:=o (.inl rfl);exact⟨z,x0f _ n,m⟩
    .rcases x0p.1 i with rfl|i
     .exact ⟨x,x0k,rfl⟩
     .obtain ⟨z,n,m⟩:=o (.inr ⟨x,i,rfl⟩);exact⟨z,x0f _ n,m⟩
def q1z{l:List (Str×AV)}{g:Str->AV}(h:∀x∈l,x.2=g x.1){k:Str}(o:∃x∈l,x.1=k):M4 l k=some (g k):=by
 unfold M4;cases i:l.find? fun x=>decide (k=x.1)with
 | none=>
   obtain⟨x,q,rfl⟩:=o;have:=x3a.1 i x q;simp at this
 | some x=>
   have n:=x3l i;have m:=x4o i;simp at m;simp[h x n,m]
def Mb(p:Pg)(I:Fit p):SpecP prog 92 [.agg p.cells] (fun r=>r=Ku (LY p).1 (LY p).2):=by
 refine sB Hq func92 rfl call92 ?_;conv=>whnf
 repeat' (first|((first|refine cP (U2 p I) ?_|refine x0h rfl ?_);conv=>whnf)|(apply bE<;>intro _<;>first|omega|conv=>whnf))
 rotate_left 1
 .have e:LY p=(1,0):=by unfold LY;rw[if_pos (by assumption)]
  exact QC (by rw[e]) (by rw[e])
 have G:(UT p).1=0:=by assumption
 obtain⟨R,_⟩:=EP G;obtain⟨y,hb,hns⟩:=KV R;obtain⟨hg,hpl,hcn⟩:=WO y;have hl:(p.A.map fun f=>AV.agg f.cells).length=p.A.length:=x0j _;repeat' ((first|(refine iM fun _=>?_)|refine OpK.makeMap rfl ?_);conv=>whnf)
 refine LoopK.inv QK (fun i:Nat×List (Str×AV)=>⟨[(1,.p (.ip p.cells)),(2,.ptr 1 0),(3,.ext 0 .map),(15,.p (.sl (p.A.map fun f=>.agg f.cells))),(16,.p (.int .i64 (p.A.map fun f=>AV.agg f.cells).length)),(17,.p (.int .i64 i.1))],[(0,.ext (Er i.2)),(1,.obj 85 [.p (.int .i64 0),.p (.int .i64 0)])]⟩)
  (fun i=>i.1<=p.A.length/\(∀x∈i.2,x.2=eStrs (NT p x.1))/\∀(m:Nat)(y:m<p.A.length),m<i.1->∃x∈i.2,x.1=p.A[m].name) (fun i=>p.A.length-i.1) (0,[])
  (Le.of_eq rfl) ⟨x0l _,by simp,by intro m y h;omega⟩ ?_
 rintro⟨j,l⟩ ⟨Z,D,E⟩;simp only at Z D E⊢;rcases x0t j p.A.length with V|V
 .have M:p.A[j].name∈procsN p:=x0n.2 ⟨_,x0s V,rfl⟩;conv=>whnf
  repeat' (first|((first|refine cP (Dk p I R _ M) ?_|refine dA ?_|refine x0h rfl ?_|(refine iA fun _=>?_)|refine wI ?_|refine OpK.mapUpdate QK rfl rfl rfl rfl rfl rfl rfl rfl rfl rfl ?_);conv=>whnf)|(apply bD<;>intro _<;>first|omega|conv=>whnf))
  refine⟨(j+1,PN l p.A[j].name (eStrs (NT p p.A[j].name))),⟨by simp only;omega,fun x U=>?_,fun m y h=>?_⟩,by simp only;omega,Le.of_eq rfl⟩
  .rcases Od U with U|rfl
   .exact D x U
   .rfl
  .refine Of ?_;rcases x0t m j with d|d
   .exact .inr (E m y d)
   .obtain rfl:m=j:=by simp only at h;omega
    exact .inl rfl
 have K:∀n∈procsN p,M4 l n=some (eStrs (NT p n)):=fun n M=>q1z (g:=fun n=>eStrs (NT p n)) D (by
  obtain⟨f,u,rfl⟩:=x0n.1 M;obtain⟨m,y,rfl⟩:=List.getElem_of_mem u;exact E m y (by omega))
 clear D E;conv=>whnf
 repeat' (first|((first|(refine iM fun _=>?_)|(refine CallK.pure (JI p (by omega) (by omega)) (.cons (Sub.refl _) .nil) ?_;rintro _ rfl));conv=>whnf)|(apply bD<;>intro _<;>first|omega|conv=>whnf))
 have G:LY p=match(YQ p).find? fun t=>decide (t.kind=4) && !WM t.name (NT p t.C) t.args []with
  |some t=>(8,t.id)
  |none=>(0,0):=by unfold LY;rw[if_neg (by omega)]
 have hil:=VU (sheetOf p).l;have hib:(sheetOf p).l.length<=200:=by have:=(QJ p).2.2.2.1;omega
 have c:=BV (q:=fun t=>decide (t.kind=4) && !WM t.name (NT p t.C) t.args []) (sheetOf p).l;rw[YJ]at c;have H:LY p=match((sheetOf p).l.find? fun o=>decide (o.s.kind=4) && !WM o.s.name (NT p o.s.C) o.s.args []).map (fun o=>o.s.id)with
  |some a=>(8,a)
  |none=>(0,0):=by
  rw[G,c];cases(YQ p).find? fun t=>decide (t.kind=4) && !WM t.name (NT p t.C) t.args []<;>rfl
 rw[H];refine LoopK.inv QK (fun k:Nat=>⟨[(2,.ptr 1 0),(3,.ext 0 .map),(33,.p (VC (sheetOf p).l)),(34,.p (.int .i64 ((sheetOf p).l.map fun i=>AV.agg i.cells).length)),(35,.p (.int .i64 k))],[(0,.ext (Er l)),(1,.obj 85 [.p (.int .i64 0),.p (.int .i64 0)])]⟩)
  (fun k=>k<=(sheetOf p).l.length/\((sheetOf p).l.drop k).find? (fun o=>decide (o.s.kind=4) && !WM o.s.name (NT p o.s.C) o.s.args [])=(sheetOf p).l.find? fun o=>decide (o.s.kind=4) && !WM o.s.name (NT p o.s.C) o.s.args []) (fun k=>(sheetOf p).l.length-k) 0 (Le.of_eq rfl) ⟨x0l _,rfl⟩ ?_
 rintro k ⟨h5,F⟩;rcases x0t k (sheetOf p).l.length with z|z;rotate_left 1
 .rw [<-F,BW z];conv=>whnf
  repeat' (first|(refine x0h rfl ?_;conv=>whnf)|(apply bD<;>intro _<;>first|omega|conv=>whnf))
  exact QC rfl rfl
 have hw:=Gs I z;have O:(sheetOf p).l[k].s.args.length<=20000:=by
  have:=Ef (sheetOf p).l[k].s;have:=Qt (sheetOf p).l[k].s.args;omega
 have Q:(sheetOf p).l[k].s.kind=4->(sheetOf p).l[k].s.C∈procsN p:=fun L=>by
  have B:(sheetOf p).l[k].s∈YQ p:=by
   rw[<-YJ];exact x0n.2 ⟨_,x0s z,rfl⟩
  unfold YQ at B;obtain⟨f,u,J⟩:=x1p.1 B;exact(Gl R u J L).1
 conv=>whnf
 repeat' (first|((first|refine cP (Bl _ _ O) ?_|refine x0h rfl ?_|(refine iA fun _=>?_)|refine wI ?_|refine OpK.lookup QK rfl rfl rfl rfl rfl rfl rfl rfl (K _ (Q (by omega))) ?_);conv=>whnf)|(apply bD<;>intro _<;>first|omega|conv=>whnf)|(apply bN<;>intro _<;>conv=>whnf))
 all_goals first
  | (have Y:=BU (p:=fun o:Item=>decide (o.s.kind=4) && !WM o.s.name (NT p o.s.C) o.s.args []) z (by simp[*])
     rw[<-F,Y];exact QC rfl rfl)
  |exact⟨k+1,⟨by omega,by rw[<-F,Xg (p:=fun o:Item=>decide (o.s.kind=4) && !WM o.s.name (NT p o.s.C) o.s.args []) z (by simp[*])]⟩,by omega,Le.of_eq rfl⟩
def Ol(p:Pg):Int×Int:=
 if JJ p=false then(1,0)else
 if(XX p).1≠0 then XX p else
 if(UT p).1≠0 then UT p else
 if(Wi p).1≠0 then Wi p else LY p
def SO(p:Pg)(h:Fit p):SpecP prog 48 [.agg p.cells] (fun r=>r=Ku (Ol p).1 (Ol p).2):=by
 refine sB M8 func48 rfl call48 ?_;conv=>whnf
 repeat' (first|((first|refine cP (Dh _) ?_|refine cP (JD p h) ?_|refine cP (U2 p h) ?_|refine cP (TE p h) ?_|refine cP (Mb p h) ?_|refine x0h rfl ?_);conv=>whnf)|(apply bD<;>intro _<;>first|omega|conv=>whnf)|(apply bN<;>intro _<;>conv=>whnf))
 all_goals exact QC (by unfold Ol;simp[*]) (by unfold Ol;simp[*])
def QE(p:Pg):Bool:=decide ((Ol p).1=0)
def FL(p:Pg)(h:Fit p):SpecP prog 12 [.agg p.cells] (fun r=>r=.bool (QE p)):=by
 refine sB M9 func12 rfl call12 ?_;conv=>whnf
 repeat' (refine cP (SO p h) ?_;conv=>whnf)
 exact RetK.bool rfl
def QT(x:Int):Int:=if x = -1 then 9223372036854775807 else x
def P9(x:Int):SpecP prog 119 [.int .i64 x] (fun r=>r=.int .i64 (QT x)):=by
 refine sB Mq func119 rfl call119 ?_;conv=>whnf
 repeat' (apply bD<;>intro _<;>first|omega|conv=>whnf)
 all_goals exact RetK.int (by unfold QT;simp[*])
def Jd(x:Int):SpecP prog 188 [.int .i64 x] (fun r=>r=.bool false):=by
 refine sB Wy func188 rfl call188 ?_;conv=>whnf
 skip
 exact RetK.bool (by simp)
def Da(x y:Int):Int:=if x<y then -1 else if y<x then 1 else 0
def HM(x y:Int):SpecP prog 118 [.int .i64 x,.int .i64 y] (fun r=>r=.int .i64 (Da x y)):=by
 refine sB MB func118 rfl call118 ?_;conv=>whnf
 repeat' (first|(refine cP (Jd _) ?_;conv=>whnf)|(apply bD<;>intro _<;>first|omega|conv=>whnf)|(apply bB<;>intro _<;>conv=>whnf))
 all_goals first
  |contradiction
  |exact RetK.int (by unfold Da;simp[*])
  |exact RetK.int (by unfold Da;rw[if_neg (by assumption),if_pos (by omega)])
  |exact RetK.int (by unfold Da;rw[if_neg (by assumption),if_neg (by omega)])
def orI:List Int->Int
 |[]=>0
 |a::r=>if a=0 then orI r else a
def U9(l:List Int):SpecP prog 117 [QI l] (fun r=>r=.int .i64 (orI l)):=by
 refine sB Hz func117 rfl call117 ?_;conv=>whnf
 repeat' (refine iM fun _=>?_;conv=>whnf)
 have n:(l.map (AV.int .i64)).length=l.length:=x0j _;refine LoopK.inv QK (fun j:Nat=>⟨[(3,.p (.int .i64 0)),(6,.p (QI l)),(7,.p (.int .i64 (l.map (AV.int .i64)).length)),(8,.p (.int .i64 j))],[]⟩) (fun j=>j<=l.length/\orI (l.drop j)=orI l) (fun j=>l.length-j) 0 (Le.of_eq rfl) ⟨x0l _,rfl⟩ ?_;rintro j ⟨m,h⟩;rcases x0t j l.length with i|i
 .rw [x1c i,orI]at h;conv=>whnf
  repeat' (first|((first|(refine iA fun _=>?_)|refine wI ?_);conv=>whnf)|(apply bD<;>intro _<;>first|omega|conv=>whnf)|(apply bE<;>intro _<;>first|omega|conv=>whnf))
  all_goals first
   |exact RetK.int (by rw[<-h,if_neg (by assumption)])
   |exact⟨j+1,⟨by omega,by rw[<-h,if_pos (by assumption)]⟩,by omega,Le.of_eq rfl⟩
   |exact⟨j+1,⟨by omega,by rw[<-h,if_pos (by simp_all)]⟩,by omega,Le.of_eq rfl⟩
 .rw [x1q i,orI]at h;conv=>whnf
  repeat' (apply bD<;>intro _<;>first|omega|conv=>whnf)
  exact RetK.int h
def Ps(l:List S)(o:Int):Int:=match l with
 |[]=>o
 |t::_=>t.id
def Cy(l:List S)(o:Int):SpecP prog 270 [.sl (l.map fun t=>.agg t.cells),.int .i64 o] (fun r=>r=.int .i64 (Ps l o)):=by
 refine sB Mz func270 rfl call270 ?_;conv=>whnf
 repeat' (first|(refine iM fun _=>?_;conv=>whnf)|(apply bD<;>intro _<;>first|omega|conv=>whnf))
 .cases l with
  |nil=>simp at*
  | cons t r=>
    refine IdxK.at (k:=0) rfl rfl rfl ?_;exact RetK.int rfl
 .cases l with
  |nil=>exact RetK.int rfl
  |cons t r=>simp at*
def ZU(a b:Step):Bool:=decide (a.src=b.src)&&decide (a.dst=b.dst)
def Uy(a b:Step):SpecP prog 231 [.agg a.cells,.agg b.cells] (fun r=>r=.bool (ZU a b)):=by
 refine sB Hv func231 rfl call231 ?_;conv=>whnf
 repeat' (apply bD<;>intro _<;>first|omega|conv=>whnf)
 all_goals first
  |exact RetK.bool (show(a.dst==b.dst)=ZU a b by unfold ZU;simp[*];rfl)
  |exact RetK.ff (by unfold ZU;simp[*])
def Ll(a b:Step):Int:=orI [Da (QT a.src) (QT b.src),Da (QT a.dst) (QT b.dst),Da a.kind b.kind]
def Mt(a b:Step):SpecP prog 229 [.agg a.cells,.agg b.cells] (fun r=>r=.int .i64 (Ll a b)):=by
 refine sB Hw func229 rfl call229 ?_;conv=>whnf
 repeat' ((first|refine cP (P9 _) ?_|refine cP (HM _ _) ?_|refine cP (U9 [Da (QT a.src) (QT b.src),Da (QT a.dst) (QT b.dst),Da a.kind b.kind]) ?_|refine dA ?_|refine x0h rfl ?_|refine aD ?_|refine BsK.pureL rfl rfl ?_);conv=>whnf)
 exact RetK.int rfl
end Go.Ab
