/- The library's contracts at this seat's program, in plain words (printed by the kit's lay-plain.mjs). Conditions: none. -/
import Derived.Shelf.Sort.Plain
import Derived.Shelf.Slices.In.SortNone
import Derived.Shelf.Slices.CompactS
import Derived.Ground.Names2Prog
import Derived.Shelf.Slices.SearchI
import Derived.Shelf.Slices.Empties
import Derived.Shelf.Spec.SlicesInsert
import Derived.Shelf.Spec.SlicesInsertGrow
import Derived.Test.YtonbdgcjnecapaaGreatProg
import Derived.Test.YtonbdgcjnecapaaGreatRchR6
import Derived.Test.YtonbdgcjnecapaaGreatRchR7
import Derived.Test.YtonbdgcjnecapaaGreatRchR10
set_option linter.all false
set_option maxRecDepth 100000
set_option maxHeartbeats 16000000
open List (filter_cons findIdx?_cons)
namespace Go.Proofs
open Go.Shelf
def Tryz.lays190_ren:Go.Shelf.Ren:=⟨fun|190=>161|125=>187|258=>220|128=>245|129=>246|302=>272|303=>273|304=>274|305=>275|306=>276|307=>277|308=>235|309=>278|310=>279|333=>307|329=>294|330=>295|334=>308|335=>309|336=>189|344=>334|n=>n,fun|31=>22|9=>9|3=>3|46=>242|0=>0|51=>280|53=>282|4=>4|183=>274|182=>273|131=>201|5=>5|218=>307|222=>311|228=>328|229=>30|n=>n,fun|n=>n⟩
def Zd:Go.Proofs.Lays.n190 Tryz.prog Tryz.lays190_ren:={
 mixed:=by kernel_rfl
 f125:=Tryz.func187.trans (congrArg some (by kernel_rfl))
 f128:=Tryz.func245.trans (congrArg some (by kernel_rfl))
 f129:=Tryz.func246.trans (congrArg some (by kernel_rfl))
 f190:=Tryz.func161.trans (congrArg some (by kernel_rfl))
 f258:=Tryz.func220.trans (congrArg some (by kernel_rfl))
 f302:=Tryz.func272.trans (congrArg some (by kernel_rfl))
 f303:=Tryz.func273.trans (congrArg some (by kernel_rfl))
 f304:=Tryz.func274.trans (congrArg some (by kernel_rfl))
 f305:=Tryz.func275.trans (congrArg some (by kernel_rfl))
 f306:=Tryz.func276.trans (congrArg some (by kernel_rfl))
 f307:=Tryz.func277.trans (congrArg some (by kernel_rfl))
 f308:=Tryz.func235.trans (congrArg some (by kernel_rfl))
 f309:=Tryz.func278.trans (congrArg some (by kernel_rfl))
 f310:=Tryz.func279.trans (congrArg some (by kernel_rfl))
 f329:=Tryz.func294.trans (congrArg some (by kernel_rfl))
 f330:=Tryz.func295.trans (congrArg some (by kernel_rfl))
 f333:=Tryz.func307.trans (congrArg some (by kernel_rfl))
 f334:=Tryz.func308.trans (congrArg some (by kernel_rfl))
 f335:=Tryz.func309.trans (congrArg some (by kernel_rfl))
 f336:=Tryz.func189.trans (congrArg some (by kernel_rfl))
 f344:=Tryz.func334.trans (congrArg some (by kernel_rfl))
 t0:=Tryz.underlying0
 a0:=Tryz.isAgg0
 z0:=Tryz.sizeOf0
 v0:=Tryz.zeroValue0
 t3:=Tryz.underlying3
 a3:=Tryz.isAgg3
 z3:=Tryz.sizeOf3
 v3:=Tryz.zeroValue3
 t4:=Tryz.underlying4
 a4:=Tryz.isAgg4
 z4:=Tryz.sizeOf4
 v4:=Tryz.zeroValue4
 t5:=Tryz.underlying5
 a5:=Tryz.isAgg5
 z5:=Tryz.sizeOf5
 v5:=Tryz.zeroValue5
 t9:=Tryz.underlying9
 a9:=Tryz.isAgg9
 z9:=Tryz.sizeOf9
 v9:=Tryz.zeroValue9
 t31:=Tryz.underlying22
 a31:=Tryz.isAgg22
 z31:=Tryz.sizeOf22
 v31:=Tryz.zeroValue22
 t46:=Tryz.underlying242
 a46:=Tryz.isAgg242
 z46:=Tryz.sizeOf242
 v46:=Tryz.zeroValue242
 t51:=Tryz.underlying280
 a51:=Tryz.isAgg280
 z51:=Tryz.sizeOf280
 v51:=Tryz.zeroValue280
 t53:=Tryz.underlying282
 a53:=Tryz.isAgg282
 z53:=Tryz.sizeOf282
 v53:=Tryz.zeroValue282
 t131:=Tryz.underlying201
 a131:=Tryz.isAgg201
 z131:=Tryz.sizeOf201
 v131:=Tryz.zeroValue201
 t182:=Tryz.underlying273
 a182:=Tryz.isAgg273
 z182:=Tryz.sizeOf273
 v182:=Tryz.zeroValue273
 t183:=Tryz.underlying274
 a183:=Tryz.isAgg274
 z183:=Tryz.sizeOf274
 v183:=Tryz.zeroValue274
 t218:=Tryz.underlying307
 a218:=Tryz.isAgg307
 z218:=Tryz.sizeOf307
 v218:=Tryz.zeroValue307
 t222:=Tryz.underlying311
 a222:=Tryz.isAgg311
 z222:=Tryz.sizeOf311
 v222:=Tryz.zeroValue311
 t228:=Tryz.underlying328
 a228:=Tryz.isAgg328
 z228:=Tryz.sizeOf328
 v228:=Tryz.zeroValue328
 t229:=Tryz.underlying30
 a229:=Tryz.isAgg30
 z229:=Tryz.sizeOf30
 v229:=Tryz.zeroValue30}
def Tryz.lays194_ren:Go.Shelf.Ren:=⟨fun|194=>162|n=>n,fun|31=>22|9=>9|3=>3|4=>4|0=>0|n=>n,fun|n=>n⟩
def Zb:Go.Proofs.Lays.n194 Tryz.prog Tryz.lays194_ren:={
 mixed:=by kernel_rfl
 f194:=Tryz.func162.trans (congrArg some (by kernel_rfl))
 t0:=Tryz.underlying0
 a0:=Tryz.isAgg0
 z0:=Tryz.sizeOf0
 v0:=Tryz.zeroValue0
 t3:=Tryz.underlying3
 a3:=Tryz.isAgg3
 z3:=Tryz.sizeOf3
 v3:=Tryz.zeroValue3
 t4:=Tryz.underlying4
 a4:=Tryz.isAgg4
 z4:=Tryz.sizeOf4
 v4:=Tryz.zeroValue4
 t9:=Tryz.underlying9
 a9:=Tryz.isAgg9
 z9:=Tryz.sizeOf9
 v9:=Tryz.zeroValue9
 t31:=Tryz.underlying22
 a31:=Tryz.isAgg22
 z31:=Tryz.sizeOf22
 v31:=Tryz.zeroValue22}
def Tryz.laysB_ren:Go.Shelf.Ren:=⟨fun|25=>305|31=>330|32=>331|37=>188|n=>n,fun|22=>54|3=>3|4=>4|40=>242|0=>0|n=>n,fun|n=>n⟩
def Kw:Go.Proofs.Lays2.n25 Tryz.prog Tryz.laysB_ren:={
 mixed:=by kernel_rfl
 f25:=Tryz.func305.trans (congrArg some (by kernel_rfl))
 f31:=Tryz.func330.trans (congrArg some (by kernel_rfl))
 f32:=Tryz.func331.trans (congrArg some (by kernel_rfl))
 f37:=Tryz.func188.trans (congrArg some (by kernel_rfl))
 t0:=Tryz.underlying0
 a0:=Tryz.isAgg0
 z0:=Tryz.sizeOf0
 v0:=Tryz.zeroValue0
 t3:=Tryz.underlying3
 a3:=Tryz.isAgg3
 z3:=Tryz.sizeOf3
 v3:=Tryz.zeroValue3
 t4:=Tryz.underlying4
 a4:=Tryz.isAgg4
 z4:=Tryz.sizeOf4
 v4:=Tryz.zeroValue4
 t22:=Tryz.underlying54
 a22:=Tryz.isAgg54
 z22:=Tryz.sizeOf54
 v22:=Tryz.zeroValue54
 t40:=Tryz.underlying242
 a40:=Tryz.isAgg242
 z40:=Tryz.sizeOf242
 v40:=Tryz.zeroValue242}
def Tryz.laysI_ren:Go.Shelf.Ren:=⟨fun|21=>306|27=>332|28=>333|35=>341|39=>343|n=>n,fun|22=>54|3=>3|4=>4|0=>0|n=>n,fun|n=>n⟩
def GX:Go.Proofs.Lays2.n21 Tryz.prog Tryz.laysI_ren:={
 mixed:=by kernel_rfl
 f21:=Tryz.func306.trans (congrArg some (by kernel_rfl))
 f27:=Tryz.func332.trans (congrArg some (by kernel_rfl))
 f28:=Tryz.func333.trans (congrArg some (by kernel_rfl))
 f35:=Tryz.func341.trans (congrArg some (by kernel_rfl))
 f39:=Tryz.func343.trans (congrArg some (by kernel_rfl))
 t0:=Tryz.underlying0
 a0:=Tryz.isAgg0
 z0:=Tryz.sizeOf0
 v0:=Tryz.zeroValue0
 t3:=Tryz.underlying3
 a3:=Tryz.isAgg3
 z3:=Tryz.sizeOf3
 v3:=Tryz.zeroValue3
 t4:=Tryz.underlying4
 a4:=Tryz.isAgg4
 z4:=Tryz.sizeOf4
 v4:=Tryz.zeroValue4
 t22:=Tryz.underlying54
 a22:=Tryz.isAgg54
 z22:=Tryz.sizeOf54
 v22:=Tryz.zeroValue54
 i3:=by kernel_rfl}
end Go.Proofs
namespace Go.Ab
open Go.Proofs.Tryz
open Go.Proofs Go.Sort
variable {α:Type}{b clock j k:Nat}{e:TypeId}{es:Array MapEntry}{l:List Str}{p:Pg}{s:Str}{v:Value}{vs:Array Value}{w:World}{β:Lab}{σ:Mem}
def Vf{c c':Chunk}{w':World}{i:BInfo}(h:HRel σ β [(k,c)] w)(y:β k=some i)(q:Frm (fun b=>b=i.blk) w w')(u:c'.holds σ β w' k):HRel σ β [(k,c')] w'/\Later σ β [(k,c)] w σ β [(k,c')] w':=by
 have r:=h.apart k (by simp) i y;refine⟨⟨fun b cs m=>?_,fun j d n=>?_,by simp,fun j n i' o b m=>?_,fun j n B t _ _ _ _ _ _ _=>?_⟩,Mem.le_refl σ,⟨q.os,q.tape,q.output,q.drawn,q.size,fun b m A=>q.block b m fun x=>A ⟨k,by simp,i,y,.inl x.symm⟩⟩,
  fun b f g=>absurd f g,fun b ⟨j,n,i',o,m⟩=>.inl ⟨j,by simpa using n,i',o,m⟩,fun _ _ _=>rfl⟩
 .obtain ⟨e,a,z⟩:=h.mem b cs m;exact⟨e,a,(q.block b (x8x.1 z).1 fun x=>by rw[x,(r _ i.has_blk).1]at m;cases m).trans z⟩
 .simp at n;obtain⟨rfl,rfl⟩:=n;exact u
 .simp at n;subst n;rw[y]at o;cases o;exact⟨(r b m).1,z0e (r b m).2 q.size⟩
 .simp at n t;rw[n,t]
def VJ(h:w.heap[b]?=some (.cells vs e (0,0)))(o:Nat):w.frozen? ⟨b,o,none⟩=false:=by
 simp[World.frozen?,h]
def KQ(h:w.heap[b]?=some (.cells vs e (0,0)))(o:Nat):w.cell? ⟨b,o,none⟩=vs[o]?:=by
 simp[World.cell?,h]
def BC[Inhabited α]{enc:α->Value}{n:Nat}{d:Array α}{os:Array Obj}(h:w.heap[b]?=some (.cells vs e (0,0)))(m:b<w.heap.size):
  Frm (fun x=>x=b) w (grow (putRow enc (Sort.ahead w n) b 0 d) os)/\(grow (putRow enc (Sort.ahead w n) b 0 d) os).heap[b]?=some (.cells (putCells enc 0 d vs) e (0,0)):=by
 have i:(grow (putRow enc (Sort.ahead w n) b 0 d) os).heap=w.heap.modify b (onCells (putCells enc 0 d))++os:=rfl;refine⟨⟨rfl,rfl,rfl,Nat.le_add_right _ _,?_,fun k o q=>?_⟩,?_⟩
 .rw [i];simp
 .rw [i,z1r (by simpa using o),z1m,if_neg (z1d q)]
 .rw [i,z1r (by simpa using m),z1m,if_pos rfl,h];rfl
def KY[Inhabited α]{enc:α->Value}{d:Array α}(m:d.size<=vs.size)(i:k<d.size):(putCells enc 0 d vs)[k]?=some (enc d[k]):=by
 unfold putCells;have h:k<vs.size:=by omega
 simp[h,i]
def S3(h:∀(m:Nat)(x:AV),(l.map AV.str)[m]?=some x->x.cells.length=1/\∀(j:Nat)(c:AV),x.cells[j]?=some c->∃u:Value,vs[m*1+j]?=some u/\Rep σ c u)(q:j<l.length):
  vs[j]?=some (encStr l[j])/\l[j].length<=maxLen:=by
 obtain⟨u,i,n⟩:=(h j (.str l[j]) (by simp[q])).2 0 (.str l[j]) rfl;cases n with
 |str _ o=>exact⟨by simpa using i,o⟩
def S4(h:∀j (n:j<l.length),vs[j]?=some (encStr l[j]))(t:∀s∈l,s.length<=maxLen):∀(m:Nat)(x:AV),(l.map AV.str)[m]?=some x->x.cells.length=1/\∀(j:Nat)(c:AV),x.cells[j]?=some c->∃u:Value,vs[m*1+j]?=some u/\Rep σ c u:=by
 intro m x i;rw[x7k]at i;cases q:l[m]?with
 |none=>rw[q]at i;cases i
 | some s=>
   rw[q]at i;cases i;obtain⟨r,rfl⟩:=x7h.1 q;refine⟨rfl,fun j c n=>?_⟩;have o:j=0:=by
    have:=(x7h.1 n).1;simpa[AV.cells]using this
   subst o;simp only[AV.cells,z3v,z1w]at n;subst n;exact⟨_,by simpa using h m r,.str _ (t _ (x7l r))⟩
def x1y{m:Array Value}{l:LV}(h:m.size=[l].length):∃v,m=#[v]:=⟨m[0]'(by simp at h;omega),by apply Array.ext;simpa using h;intro i o n;simp at n;subst n;rfl⟩
def Gq{n:Nat}{i:BInfo}(h:RepL σ β (.hd k 0 n) v)(r:β k=some i):v=.slice (some ⟨i.blk,0,none⟩) n i.cap:=by
 rcases h.hdI with⟨m,_⟩|⟨i',o,m,u,q,t⟩
 .rw [r]at m;cases m
 .rw [r]at m;cases m;rcases q with q|q
  .rw [t,q];simp
  .omega
def Nu{n:Nat}(h:RepL σ β (.hd k 0 n) v)(m:β k=none):v=.slice none 0 0/\n=0:=by
 rcases h.hdI with⟨_,_,q,r⟩|⟨i',o,i,_⟩
 .exact ⟨r,q⟩
 .rw [m]at i;cases i
def JV(l:List Str):List Str:=l.mergeSort fun x y=>decide (x<=y)
def HM(l:List Str)(F:l.length<=1000000000):
  SpecH prog 161 [.hd 1000 0 l.length] [(1000,.own 9 1 (l.map .str))] (fun r H=>r=.p (.tup [])/\H=[(1000,.own 9 1 ((JV l).map .str))]):=by
 refine⟨call161,fun σ β w I R q hH=>?_⟩;obtain⟨v,rfl⟩:=x1y R;have q:=q 0 _ rfl;simp only[z1z,x8j,z0p,Array.getD_eq_getD_getElem?]at q;have q:RepL σ β (.hd 1000 0 l.length) v:=by simpa using q
 have c:=hH.chunks 1000 _ x7v;have h:(JV l).length=l.length:=by unfold JV;simp
 rcases c with⟨a,f⟩|⟨i,vs,y,B,g,D,E,J,K⟩
 .have A:l=[]:=by simpa using f
  subst A;obtain⟨rfl,_⟩:=Nu q a;have t:=Any.slices_Sort_string_none Zd none 0 w;change Calls prog 161 _ _ _ at t;refine t.mono ?_;rintro e w' ⟨rfl,rfl⟩;exact⟨.p (.tup []),.tuple #[],σ,β,_,rfl,⟨rfl,rfl⟩,.p (.tup [] #[] (fun _=>undef) rfl (by simp) (by simp)),by simpa[JV]using hH,by simpa[JV]using Later.refl _ _ _ _⟩
 .have C:=Gq q y;subst C;have x:=(hH.apart 1000 (by simp) i y i.blk i.has_blk).2;have Q:l.length<=vs.size:=by rw[D,z4u];simpa using E
  have m:=fun j o=>S3 (σ:=σ) (l:=l) K (j:=j) o;have t:=Any.slices_Sort_string Zd i.blk 0 i.cap l w (fun j o=>by
   have u:j<l.length:=by simpa using o
   refine⟨?_,VJ g _⟩;rw[KQ g,z0q,(m j u).1];simp[u]) x (by omega)
  change Calls prog 161 _ _ _ at t;refine t.mono ?_;rintro e w' ⟨rfl,n,os,rfl⟩;obtain⟨O,M⟩:=BC (enc:=encStr) (n:=n) (os:=os) (d:=(JV l).toArray) g x;obtain⟨z,L⟩:=Vf (c':=.own 9 1 ((JV l).map .str)) hH y O (.inr ⟨i,_,y,B,M,by simpa[putCells]using D,by simpa[h]using E,J,S4 (fun j o=>by
   have:=KY (enc:=encStr) (d:=(JV l).toArray) (vs:=vs) (by simp[h];omega) (k:=j) (by simpa using o);simpa using this) fun s G=>by
    have:s∈l:=by unfold JV at G;simpa using G
    obtain⟨j,o,rfl⟩:=x9s.1 this;exact(m j o).2⟩)
  exact⟨.p (.tup []),.tuple #[],σ,β,_,rfl,⟨rfl,rfl⟩,.p (.tup [] #[] (fun _=>undef) rfl (by simp) (by simp)),z,L⟩
def Ks(l:List Str):(Go.Lib.compact l).length<=l.length:=by
 unfold Go.Lib.compact Go.Lib.compactUpTo;rw[x7z];exact x8m (x9n _ _) (by simp)
def NF(h:s∈Go.Lib.compact l):s∈l:=by
 unfold Go.Lib.compact Go.Lib.compactUpTo at h;obtain⟨j,m,rfl⟩:=x7d.1 h;have:=(x8d.1 m).1;have i:j<l.length:=by simpa using this
 simp[i]
def HB[Inhabited α]{enc:α->Value}{d:Array α}{o:Nat}:(putCells enc o d vs).size=vs.size:=by simp[putCells]
def KT(l:List Str)(J:l.length<=1000000000):
  SpecH prog 162 [.hd 1000 0 l.length] [(1000,.own 9 1 (l.map .str))] (fun r H=>r=.hd 1000 0 (Go.Lib.compact l).length/\H=[(1000,.own 9 1 ((Go.Lib.compact l).map .str))]):=by
 refine⟨call162,fun σ β w K U o hH=>?_⟩;obtain⟨v,rfl⟩:=x1y U;have o:=o 0 _ rfl;have o:RepL σ β (.hd 1000 0 l.length) v:=by simpa using o
 have c:=hH.chunks 1000 _ x7v;have Q:=Ks l;rcases c with⟨t,f⟩|⟨i,vs,y,C,g,E,F,L,M⟩
 .have A:l=[]:=by simpa using f
  subst A;obtain⟨rfl,_⟩:=Nu o t;have u:=Any.slices_Compact_string_empty Zb none 0 w;change Calls prog 162 _ _ _ at u;refine u.mono ?_;rintro e w' ⟨rfl,rfl⟩;exact⟨.hd 1000 0 0,.slice none 0 0,σ,β,_,rfl,⟨rfl,rfl⟩,.hdn 1000 t,by simpa[Go.Lib.compact,Go.Lib.compactUpTo]using hH,by simpa[Go.Lib.compact,Go.Lib.compactUpTo]using Later.refl _ _ _ _⟩
 .have D:=Gq o y;subst D;have B:=(hH.apart 1000 (by simp) i y i.blk i.has_blk).2;have R:l.length<=vs.size:=by rw[E,z4u];simpa using F
  have x:l.length<=i.cap:=by simpa using F
  have h:=fun j m=>S3 (σ:=σ) (l:=l) M (j:=j) m;have u:=Any.slices_Compact_string Zb i.blk 0 i.cap l w (fun j m=>by
   have z:j<l.length:=by simpa using m
   refine⟨?_,VJ g _⟩;rw[KQ g,z0q,(h j z).1];simp[z]) (by omega) x
  change Calls prog 162 _ _ _ at u;refine u.mono ?_;rintro e w' ⟨rfl,q,rfl⟩;obtain⟨I,G⟩:=BC (enc:=encStr) (n:=q) (os:=#[]) (d:=(Go.Lib.compact l++List.replicate (l.length-(Go.Lib.compact l).length) []).toArray) g B;rw[grow_empty]at I G;obtain⟨a,O⟩:=Vf (c':=.own 9 1 ((Go.Lib.compact l).map .str)) hH y I (.inr ⟨i,_,y,C,G,by rw[HB];exact E,by simp;omega,L,S4 (fun j m=>by
   have:=KY (enc:=encStr) (d:=(Go.Lib.compact l++List.replicate (l.length-(Go.Lib.compact l).length) []).toArray) (vs:=vs) (by simp;omega) (k:=j) (by simp;omega);rw[this];simp[List.getElem_append_left m]) fun s V=>by
    obtain⟨j,m,rfl⟩:=x9s.1 (NF V);exact(h j m).2⟩)
  refine⟨.hd 1000 0 (Go.Lib.compact l).length,_,σ,β,_,rfl,⟨rfl,rfl⟩,?_,a,O⟩;have:=z4w (σ:=σ) (β:=β) 1000 0 (Go.Lib.compact l).length i 0 y (by omega) (.inl (by simp));simpa using this
def VA(q:(QI p).1=0){f:Pr}(o:f∈p.A){t:S}(r:t∈flL f.body):knownB p f (procsN p) t=true:=by
 obtain⟨_,_,h⟩:=KK q;have i:=z1t.1 h f o;unfold WN at i;cases m:(ZD (Qb f)||(Qb f).any fun n=>p.B.any fun s=>n==s)<;>rw[m]at i
 .simp only[x7o,z3n]at i;have:=z0t.1 i t r;simpa using this
 .cases i
def H6(q:(QI p).1=0){f:Pr}(n:f∈p.A){t:S}(r:t∈flL f.body)(o:t.kind=4):t.D∈procsN p/\t.D≠mainS:=by
 have:=VA q n r;unfold knownB at this;simp only[x7i,z1y,x8l]at this;rcases this.2 with h|h
 .exact absurd o h
 .simp only[x9r,z1o,ne_eq]at h;refine⟨?_,h.1⟩;obtain⟨s,i,m⟩:=x8e.1 h.2;have:=eq_of_beq m;exact this▸i
def HQ(f:Pr):List Str:=((flL f.body).filter fun t=>decide (t.kind=4)).map S.D
def FT(f:Pr):List Str:=Go.Lib.compact (JV (HQ f))
def Qw:s∈JV l↔s∈l:=by unfold JV;simp
def UQ(l:List Str):(JV l).length=l.length:=by unfold JV;simp
def Si(f:Pr):(FT f).length<=cntL f.body:=by
 have:=Ks (JV (HQ f));rw[UQ]at this;unfold FT;refine x8m this ?_;unfold HQ;rw[x7z,<-Un];exact x9n _ _
def Zm(r:(QI p).1=0){f:Pr}(q:f∈p.A)(h:s∈FT f):s∈procsN p:=by
 have i:=Qw.1 (NF h);obtain⟨t,m,rfl⟩:=x7d.1 i;obtain⟨n,o⟩:=x8d.1 m;exact(H6 r q n (by simpa using o)).1
def Dv{n:Str}(h:n∈procsN p):∃(k:Nat) (o:k<p.A.length),idxF (fun f=>f.name==n) p.A=k/\p.A.find? (fun f=>f.name==n)=some p.A[k]/\p.A[k].name=n:=by
 have q:p.A.any (fun f=>f.name==n)=true:=by
  obtain⟨f,i,m⟩:=x7d.1 h;exact x8e.2 ⟨f,i,by simp[m]⟩
 obtain⟨k,o,i,m,r⟩:=Tx q;exact⟨k,o,i,r,by simpa using m⟩
def RZ(p:Pg)(n:Str)(k:Nat)(B:k<p.A.length)(d:idxF (fun f=>f.name==n) p.A=k)(c:cntP p.A<=1000):SpecP prog 269 [.ip (sheetOf p).cells,.str n] (fun r=>r=eStrs (FT p.A[k])):=by
 refine sB F0 func269 rfl call269 ?_;conv=>whnf
 repeat' ((first|(refine iM fun _=>?_)|refine cP (XM _ _) ?_|(refine CallK.pure (Sd p (j:=k) (f:=p.A[k]'B) (by simp) c) (.cons (Sub.refl _) (.cons (Sub.int (by exact d)) .nil)) ?_;rintro _ rfl));conv=>whnf)
 have m:=BI (k:Nat) 0 (-1) 0 (QP p.A k) p.A[k].body;have x:(itL (k:Nat) 0 (-1) 0 (QP p.A k) p.A[k].body).length<=1000:=by
  have:=(QU p).2.2.2.2 k p.A[k] (by simp);rw[ZC];omega
 generalize y:itL (k:Nat) 0 (-1) 0 (QP p.A k) p.A[k].body=its at m x⊢;have g:=VV its;have t:HQ p.A[k]=(its.filter fun it=>decide (it.s.kind=4)).map fun it=>it.s.D:=by
  unfold HQ;rw[<-m,List.filter_map,z1s];rfl
 refine LoopK.inv QV (fun i:Nat×List Str=>⟨[(5,.hd 0 0 i.2.length),(12,.p (VL its)),(13,.p (.int .i64 (its.map fun i=>AV.agg i.cells).length)),(14,.j i.1)],[(0,.own 9 1 (i.2.map .str))]⟩)
  (fun i=>i.1<=its.length/\i.2.length<=i.1/\i.2++((its.drop i.1).filter fun it=>decide (it.s.kind=4)).map (fun it=>it.s.D)=HQ p.A[k]) (fun i=>its.length-i.1) (0,[])
  (Le.mk [(0,.own 9 1 [])] (by simp[Chunk.new0];rfl) (by simp) (by simp) (.cons (.nil x7v) (.r (.r (.r .nil)))) (.new x7v .nil))
  ⟨x7p _,x7s _,by rw[t];rfl⟩ ?_
 rintro⟨j,h⟩ ⟨z,a,o⟩;simp only at z a o⊢;rcases x7m j its.length with u|u
 .conv=>whnf
  repeat' (first|((first|refine x7g rfl ?_|refine aD ?_|refine bP ?_|(refine iA fun _=>?_)|refine wI ?_|refine QO (by simp) (by simp;omega) ?_);conv=>whnf)|(apply bD<;>intro _<;>first|omega|conv=>whnf))
  .exact ⟨(j+1,h++[its[j].s.D]),⟨by simp only;omega,by simp;omega,by simp only;rw[<-o,QG u,filter_cons,if_pos (by simp[*])];simp⟩,by simp only;omega,Le.of_eq (by simp only[x7u,x7n];rfl)⟩
  .exact ⟨(j+1,h),⟨by simp only;omega,by simp only;omega,by simp only;rw[<-o,QG u,filter_cons,if_neg (by simp[*])]⟩,by simp only;omega,Le.of_eq rfl⟩
 .have q:h=HQ p.A[k]:=by
   rw[x7e u]at o;simpa using o
  conv=>whnf
  repeat' (first|(apply bD<;>intro _<;>first|omega|conv=>whnf)|(refine cH rH2 0 (HM h (by omega)) ?_;conv=>whnf)|(refine cH rH2 0 (KT (JV h) (by rw[UQ];omega)) ?_ (ha:=(x8y (z2r (by rw[UQ];rfl)) z0v));conv=>whnf))
  exact⟨_,.hd rfl (by simp),by unfold FT;rw[<-q];rfl⟩
def YA(out:List Str):List Str->List Str
 |[]=>out
 |n::r=>YA (if(out.any fun s=>n==s)=true then out else out++[n]) r
def U0{out:List Str}(h:j<l.length):YA out (l.drop j)=YA (if(out.any fun s=>l[j]==s)=true then out else out++[l[j]]) (l.drop (j+1)):=by
 rw[QG h,YA]
theorem BX{p:Pg}:∀(l:List Str){out:List Str},out.Nodup->(∀s∈out,s∈procsN p)->(∀s∈l,s∈procsN p)->(YA out l).Nodup/\(∀s∈YA out l,s∈procsN p)/\∃r,YA out l=out++r
 |[],out,h1,h2,_=>⟨h1,h2,[],by rw[YA];simp⟩
 | n::r,out,h1,h2,h3=>by
   rw[YA];split
   .exact BX r h1 h2 fun s h=>h3 s (x7j _ h)
   .rename_i y;have i:n∉out:=fun x=>y (x8e.2 ⟨n,x,by simp⟩);obtain⟨o,q,z,t⟩:=BX (p:=p) r (out:=out++[n]) (x9k.2 ⟨h1,by simp,fun a ha b m=>by simp at m;subst m;exact fun u=>i (u▸ha)⟩) (fun s h=>by
     rcases x7b.1 h with h|h
     .exact h2 s h
     .simp at h;subst h;exact h3 _ x7v) fun s h=>h3 s (x7j _ h)
    exact⟨o,q,n::z,by rw[t];simp⟩
def Kn(p:Pg)(n:Str):List Str:=match p.A.find? (fun f=>f.name==n)with
 |some f=>FT f
 |none=>[]
def GH(p:Pg):Nat->Nat->List Str->List Str
 |0,_,out=>out
 | fuel+1,i,out=>match out[i]?with
   |some n=>GH p fuel (i+1) (YA out (Kn p n))
   |none=>out
def q2p(p:Pg)(n:Str):List Str:=JV (GH p (p.A.length+1) 0 [n])
theorem DR{α:Type}[BEq α][LawfulBEq α]:∀{l m:List α},l.Nodup->(∀s∈l,s∈m)->l.length<=m.length
 |[],m,_,_=>x7p _
 | a::r,m,h1,h2=>by
   have ha:=h2 a x7v;have:=DR (l:=r) (m:=m.erase a) (x8i.1 h1).2 fun s h=>(List.mem_erase_of_ne fun i=>(x8i.1 h1).1 (by rw[<-i];exact h)).2 (h2 s (x7j _ h));rw[List.length_erase_of_mem ha]at this;have:=z3p ha;simp only[x8j];omega
def A6{n:Str}(i:k<p.A.length)(h:p.A.find? (fun f=>f.name==n)=some p.A[k]):Kn p n=FT p.A[k]:=by
 unfold Kn;rw[h]
def Py(m:(QI p).1=0){n:Str}(h:s∈Kn p n):s∈procsN p:=by
 unfold Kn at h;split at h
 .rename_i f i;exact Zm m (z0g i) h
 .cases h
def Ia(p:Pg)(n:Str)(I:(QI p).1=0)(V:n∈procsN p):SpecP prog 214 [.ip (sheetOf p).cells,.str n] (fun r=>r=eStrs (q2p p n)):=by
 refine sB Lg func214 rfl call214 ?_;conv=>whnf
 obtain⟨U,hb,hns⟩:=KK I;obtain⟨hg,hpl,O⟩:=WO U;have Z:(procsN p).length=p.A.length:=by simp[procsN]
 repeat' ((first|refine x7g rfl ?_|refine aD ?_|refine z3o (fun x hx=>by rcases x7y.1 hx with rfl;rfl) rfl ?_);conv=>whnf)
 refine LoopK.inv QV (fun i:Nat×List Str=>⟨[(0,.p (.ip (sheetOf p).cells)),(5,.hd 0 0 i.2.length),(6,.j i.1)],[(0,.own 9 1 (i.2.map .str))]⟩)
  (fun i=>i.1<=i.2.length/\i.2.Nodup/\(∀s∈i.2,s∈procsN p)/\GH p (p.A.length+1-i.1) i.1 i.2=GH p (p.A.length+1) 0 [n]) (fun i=>p.A.length+1-i.1) (0,[n])
  (Le.of_eq rfl) ⟨x7p _,by simp,by simpa using V,rfl⟩ ?_
 rintro⟨j,out⟩ ⟨J,B,g,u⟩;simp only at J B g u⊢;have hol:=DR B g;rcases x7m j out.length with d|d
 .obtain ⟨k,G,F,E,Y⟩:=Dv (g _ (x7l d));have D:=Si p.A[k];have M:cntL p.A[k].body<=200:=by
   have:=(QU p).2.2.2.2 k p.A[k] (by simp);omega
  conv=>whnf
  repeat' (first|((first|(refine iM fun _=>?_)|refine x7g rfl ?_|refine x8p j rfl d ?_|refine x9g j 0 (.str out[j]) (by omega) (by simp[d]) ?_|(refine CallK.pure (RZ p out[j] k G F (by omega)) (.cons (Sub.refl _) (.cons (Sub.refl _) .nil)) ?_;rintro _ rfl));conv=>whnf)|(apply bD<;>intro _<;>first|omega|conv=>whnf))
  have f:∀s∈FT p.A[k],s∈procsN p:=fun s h=>Zm I (x7l G) h;have C:=A6 G E;have t:GH p (p.A.length+1-j) j out=GH p (p.A.length+1-(j+1)) (j+1) (YA out (FT p.A[k])):=by
   rw[show p.A.length+1-j=(p.A.length+1-(j+1))+1 by omega,GH,x7x d];simp only;rw[C]
  rw[t]at u;obtain⟨z,a,rr,c⟩:=BX (FT p.A[k]) B g f;generalize FT p.A[k]=cs at f u z a c D⊢;have H:(cs.map AV.str).length=cs.length:=x7z _;refine LoopK.inv QV (fun i:Nat×List Str=>⟨[(0,.p (.ip (sheetOf p).cells)),(5,.hd 0 0 i.2.length),(6,.j j),(22,.p (eStrs cs)),(23,.p (.int .i64 (cs.map AV.str).length)),(24,.j i.1)],[(0,.own 9 1 (i.2.map .str))]⟩)
   (fun i=>i.1<=cs.length/\i.2.length<=out.length+i.1/\YA i.2 (cs.drop i.1)=YA out cs) (fun i=>cs.length-i.1) (0,out)
   (Le.of_eq rfl) ⟨x7p _,by simp,rfl⟩ ?_
  rintro⟨m,q⟩ ⟨K,L,y⟩;simp only at K L y⊢;rcases x7m m cs.length with o|o
  .conv=>whnf
   repeat' (first|((first|refine x7g rfl ?_|refine aD ?_|refine bP ?_|(refine iA fun _=>?_)|refine wI ?_|(refine XH (QX q (cs[m]'o)) (.cons (.hd rfl (by simp)) (.cons (.p (Sub.refl _)) .nil)) (by rintro _ rfl;rfl) ?_;rintro _ rfl)|refine QO (by simp) (by simp;omega) ?_);conv=>whnf)|(apply bD<;>intro _<;>first|omega|conv=>whnf)|(apply bN<;>intro _<;>conv=>whnf))
   .exact ⟨(m+1,q),⟨by simp only;omega,by simp only;omega,by simp only;rw[<-y,U0 o,if_pos (by assumption)]⟩,by simp only;omega,Le.of_eq rfl⟩
   .exact ⟨(m+1,q++[cs[m]]),⟨by simp only;omega,by simp;omega,by simp only;rw[<-y,U0 o,if_neg (by simp[*])]⟩,by simp only;omega,Le.of_eq (by simp only[x7u,x7n];rfl)⟩
  .rw [x7e o,YA]at y;subst y;have Q:out.length<=(YA out cs).length:=by rw[c];simp
   conv=>whnf
   repeat' (first|(refine wI ?_;conv=>whnf)|(apply bD<;>intro _<;>first|omega|conv=>whnf))
   exact⟨(j+1,YA out cs),⟨by simp only;omega,z,a,u⟩,by simp only;omega,Le.of_eq rfl⟩
 .have R:j=out.length:=by omega
  have t:GH p (p.A.length+1-j) j out=out:=by
   rw[show p.A.length+1-j=(p.A.length-j)+1 by omega,GH,x9z (by omega)]
  rw[t]at u;conv=>whnf
  repeat' (first|(refine iM fun _=>?_;conv=>whnf)|(apply bD<;>intro _<;>first|omega|conv=>whnf)|(refine cH rH2 0 (HM out (by omega)) ?_;conv=>whnf))
  exact⟨_,.hd rfl (by simp[UQ]),by unfold q2p;rw[<-u];rfl⟩
mutual
theorem q2o:∀(x:X)(out:List Str),(N4 x out).length<=out.length+wX x
 | .mk op n name kids,out=>by
   rw[N4,wX];have:=AG kids (if op=2/\(out.any fun s=>name==s)=false then out++[name]else out);split at this
   ·rename_i h;rw[if_pos h];simp at this;omega
   ·rename_i h;rw[if_neg h];omega
theorem AG:∀(l:List X)(out:List Str),(FI l out).length<=out.length+wXs l
 |[],out=>by rw[FI];omega
 | x::r,out=>by
   have h1:=q2o x out;have h2:=AG r (N4 x out);rw[FI,wXs];omega
end
def Vw(x:X):(XP x).length<=wX x:=by
 unfold XP;have:=q2o x [];cases CX x<;>simp at this⊢;exact this
theorem Yn:∀l:List Arg,(l.flatMap JP).length<=PV l
 |[]=>by simp
 | a::r=>by
   have h:=Yn r;have i:=Vw a.x;simp only[x9v,x7u,PV];have m:(JP a).length<=1+(XP a.x).length:=by
    unfold JP;cases a.ref<;>simp;omega
   omega
def q0k(t:S):(XF t).length<=wS t:=by
 have h:=Yn t.args;have i:=Vw t.x;rw[RJ];have m:(KU t).length<=1+(XP t.x).length:=by
  unfold KU;cases(decide (t.kind≠10) && !(t.name==[]):Bool)<;>simp;omega
 unfold XF;rw[x7u];omega
def Lb{b:Bool}(h:b=true):Sub (.bool b) .tt:=fun _ _ i=>by subst h;cases i;exact .tt
def RW(p:Pg)(m:Fit p)(q:(QI p).1=0)(n:Str)(o:n∈procsN p):SpecP prog 213 [.agg p.cells,.str n] (fun r=>r=.tt):=by
 refine sB F1 func213 rfl call213 ?_;conv=>whnf
 repeat' (first|((first|refine cP (JT p m) ?_|refine cP (WF p.A 268 (.ip [.str n]) (fun f=>f.name==n) (Di n)) ?_);conv=>whnf)|(apply bD<;>intro _<;>first|omega|conv=>whnf))
 have:p.A.any (fun f=>f.name==n)=true:=by
  obtain⟨f,h,i⟩:=x7d.1 o;exact x8e.2 ⟨f,h,by simp[i]⟩
 exact⟨_,.p (Lb this),rfl⟩
def AB(p:Pg)(t:S):List Str:=(XF t).filter fun v=>p.B.any fun s=>v==s
def R8(p:Pg)(n:Str):List Str:=match p.A.find? (fun f=>f.name==n)with
 |some f=>(flL f.body).flatMap (AB p)
 |none=>[]
def NP(p:Pg)(n:Str):List Str:=(q2p p n).flatMap (R8 p)
def FO(p:Pg)(n:Str):List Str:=Go.Lib.compact (JV (NP p n))
theorem Gc{p:Pg}(m:(QI p).1=0):∀(fuel i:Nat)(out:List Str),out.Nodup->(∀s∈out,s∈procsN p)->(GH p fuel i out).Nodup/\∀s∈GH p fuel i out,s∈procsN p
 |0,i,out,h1,h2=>by rw[GH];exact⟨h1,h2⟩
 | fuel+1,i,out,h1,h2=>by
   rw[GH];split
   .obtain ⟨n,o,_⟩:=BX (Kn p _) h1 h2 fun s h=>Py m h;exact Gc m fuel (i+1) _ n o
   .exact ⟨h1,h2⟩
def O7(q:(QI p).1=0){n:Str}(o:n∈procsN p):(q2p p n).length<=p.A.length/\∀s∈q2p p n,s∈procsN p:=by
 obtain⟨m,i⟩:=Gc q (p.A.length+1) 0 [n] (by simp) (by simpa using o);unfold q2p;rw[UQ];refine⟨?_,fun s h=>i s (Qw.1 h)⟩;have:=DR m i;simpa[procsN]using this
def KW{β:Type}{f:α->List β}{l:List α}(h:j<l.length):(l.drop j).flatMap f=f l[j]++(l.drop (j+1)).flatMap f:=by
 rw[QG h,x9v]
def De(p:Pg)(hf:Fit p)(G:(QI p).1=0)(n:Str)(V:n∈procsN p):SpecP prog 156 [.agg p.cells,.str n] (fun r=>r=eStrs (FO p n)):=by
 refine sB Vs func156 rfl call156 ?_;conv=>whnf
 obtain⟨F,hb,hns⟩:=KK G;obtain⟨hg,hpl,hcn⟩:=WO F;repeat' ((first|(refine iM fun _=>?_)|refine cP (RW p hf G n V) ?_|refine cP (Ia p n G V) ?_|(refine CallK.pure (HW p (by omega) (by omega)) (.cons (Sub.refl _) .nil) ?_;rintro _ rfl));conv=>whnf)
 obtain⟨I,g⟩:=O7 G V;have L:FO p n=Go.Lib.compact (JV (NP p n)):=rfl;have C:NP p n=(q2p p n).flatMap (R8 p):=rfl;rw[L];generalize q2p p n=ns at I g C⊢;have hnl:(ns.map AV.str).length=ns.length:=x7z _;refine LoopK.inv QV (fun i:Nat×List Str=>⟨[(2,.p (.ip p.cells)),(5,.p (.ip (sheetOf p).cells)),(6,.hd 0 0 i.2.length),(21,.p (eStrs ns)),(22,.p (.int .i64 (ns.map AV.str).length)),(23,.j i.1)],[(0,.own 9 1 (i.2.map .str))]⟩)
  (fun i=>i.1<=ns.length/\i.2.length<=4200000*i.1/\i.2++(ns.drop i.1).flatMap (R8 p)=NP p n) (fun i=>ns.length-i.1) (0,[])
  (Le.mk [(0,.own 9 1 [])] (by simp[Chunk.new0];rfl) (by simp) (by simp) (.r (.r (.cons (.nil x7v) (.r (.r (.r .nil)))))) (.new x7v .nil))
  ⟨x7p _,by simp,by rw[C];rfl⟩ ?_
 rintro⟨j,o⟩ ⟨h2,h3,a⟩;simp only at h2 h3 a⊢;rcases x7m j ns.length with E|E;rotate_left 1
 .have d:o=NP p n:=by
   rw[x7e E]at a;simpa using a
  rw[<-d];conv=>whnf
  repeat' (first|(apply bD<;>intro _<;>first|omega|conv=>whnf)|(refine cH rH2 0 (HM o (by omega)) ?_;conv=>whnf)|(refine cH rH2 0 (KT (JV o) (by rw[UQ];omega)) ?_ (ha:=(x8y (z2r (by rw[UQ];rfl)) z0v));conv=>whnf))
  exact⟨_,.hd rfl (by simp),rfl⟩
 obtain⟨k,hk,R,J,hnk⟩:=Dv (g _ (x7l E));have M:R8 p ns[j]=(flL p.A[k].body).flatMap (AB p):=by unfold R8;rw[J]
 rw[KW E,M]at a;have K:=hf.pr (x7l hk);have D:p.A[k]?=some p.A[k]:=by simp
 conv=>whnf
 repeat' (first|((first|(refine iM fun _=>?_)|refine cP (XM _ _) ?_|(refine iA fun _=>?_)|(refine CallK.pure (Sd p (j:=k) (f:=p.A[k]'hk) D (by omega)) (.cons (Sub.refl _) (.cons (Sub.int (by exact R)) .nil)) ?_;rintro _ rfl));conv=>whnf)|(apply bD<;>intro _<;>first|omega|conv=>whnf))
 have z:=BI (k:Nat) 0 (-1) 0 (QP p.A k) p.A[k].body;have x:∀m (F:m<(itL (k:Nat) 0 (-1) 0 (QP p.A k) p.A[k].body).length),wS (itL (k:Nat) 0 (-1) 0 (QP p.A k) p.A[k].body)[m].s<=21000:=fun m F=>by
  have U:(itL (k:Nat) 0 (-1) 0 (QP p.A k) p.A[k].body)[m].s∈flL p.A[k].body:=by
   rw[<-z];exact x7d.2 ⟨_,x7l F,rfl⟩
  have:=Pl _ _ U;unfold wPr at K;omega
 have Q:(itL (k:Nat) 0 (-1) 0 (QP p.A k) p.A[k].body).length<=200:=by
  have:=(QU p).2.2.2.2 k p.A[k] D;rw[ZC];omega
 rw[<-z]at a;generalize hits:itL (k:Nat) 0 (-1) 0 (QP p.A k) p.A[k].body=its at x Q a⊢;have hil:=VV its;refine LoopK.inv QV (fun i:Nat×List Str=>⟨[(2,.p (.ip p.cells)),(5,.p (.ip (sheetOf p).cells)),(6,.hd 0 0 i.2.length),(21,.p (eStrs ns)),(22,.p (.int .i64 (ns.map AV.str).length)),(23,.j j),(31,.p (VL its)),(32,.p (.int .i64 (its.map fun i=>AV.agg i.cells).length)),(33,.j i.1)],[(0,.own 9 1 (i.2.map .str))]⟩)
  (fun i=>i.1<=its.length/\i.2.length<=o.length+21000*i.1/\i.2++(((its.drop i.1).map Item.s).flatMap (AB p)++(ns.drop (j+1)).flatMap (R8 p))=NP p n) (fun i=>its.length-i.1) (0,o)
  (Le.of_eq rfl) ⟨x7p _,by simp,a⟩ ?_
 rintro⟨m,t⟩ ⟨h6,h7,c⟩;simp only at h6 h7 c⊢;rcases x7m m its.length with y|y;rotate_left 1
 .rw [x7e y]at c;conv=>whnf
  repeat' (first|(refine wI ?_;conv=>whnf)|(apply bD<;>intro _<;>first|omega|conv=>whnf))
  exact⟨(j+1,t),⟨by simp only;omega,by simp only;omega,by simpa using c⟩,by simp only;omega,Le.of_eq rfl⟩
 have hw:=x m y;have Y:its[m].s.args.length<=21000:=by
  have:=RJ its[m].s;have:=DS its[m].s.args;omega
 have Z:=q0k its[m].s;rw[x8b y,x8v,x9v,x8w]at c;have O:AB p its[m].s=(XF its[m].s).filter fun v=>p.B.any fun s=>v==s:=rfl;conv=>whnf
 repeat' (first|((first|(refine iM fun _=>?_)|refine cP (G3 _ Y) ?_|refine x7g rfl ?_|(refine iA fun _=>?_));conv=>whnf)|(apply bD<;>intro _<;>first|omega|conv=>whnf))
 rw[O]at c;generalize XF its[m].s=vs at Z c⊢;have hvl:(vs.map AV.str).length=vs.length:=x7z _;refine LoopK.inv QV (fun i:Nat×List Str=>⟨[(2,.p (.ip p.cells)),(5,.p (.ip (sheetOf p).cells)),(6,.hd 0 0 i.2.length),(21,.p (eStrs ns)),(22,.p (.int .i64 (ns.map AV.str).length)),(23,.j j),(31,.p (VL its)),(32,.p (.int .i64 (its.map fun i=>AV.agg i.cells).length)),(33,.j m),(39,.p (eStrs vs)),(40,.p (.int .i64 (vs.map AV.str).length)),(41,.j i.1)],[(0,.own 9 1 (i.2.map .str))]⟩)
  (fun i=>i.1<=vs.length/\i.2.length<=t.length+i.1/\i.2++((vs.drop i.1).filter (fun v=>p.B.any fun s=>v==s)++(((its.drop (m+1)).map Item.s).flatMap (AB p)++(ns.drop (j+1)).flatMap (R8 p)))=NP p n) (fun i=>vs.length-i.1) (0,t)
  (Le.of_eq rfl) ⟨x7p _,by simp,c⟩ ?_
 rintro⟨q,u⟩ ⟨h9,H,h⟩;simp only at h9 H h⊢;rcases x7m q vs.length with hq|hq
 .rw [x8b hq,filter_cons]at h;conv=>whnf
  repeat' (first|((first|refine cP (QX _ _) ?_|refine x7g rfl ?_|refine aD ?_|refine bP ?_|(refine iA fun _=>?_)|refine wI ?_|refine QO (by simp) (by simp;omega) ?_);conv=>whnf)|(apply bD<;>intro _<;>first|omega|conv=>whnf)|(apply bB<;>intro _<;>conv=>whnf))
  .exact ⟨(q+1,u++[vs[q]]),⟨by simp only;omega,by simp;omega,by rw[if_pos (by assumption)]at h;simpa using h⟩,by simp only;omega,Le.of_eq (by simp only[x7u,x7n];rfl)⟩
  .exact ⟨(q+1,u),⟨by simp only;omega,by simp only;omega,by rw[if_neg (by simp[*])]at h;exact h⟩,by simp only;omega,Le.of_eq rfl⟩
 .rw [x7e hq]at h;conv=>whnf
  repeat' (first|(refine wI ?_;conv=>whnf)|(apply bD<;>intro _<;>first|omega|conv=>whnf))
  exact⟨(m+1,u),⟨by simp only;omega,by simp only;omega,by simpa using h⟩,by simp only;omega,Le.of_eq rfl⟩
section
variable {P:Program}{T:Tab}{N:Nat}
def YS(s:List UInt8):Value:=.string ⟨s.toArray⟩
def IP(l:List (List UInt8×AV)):XC:=.map (l.map fun x=>(YS x.1,x.2))
def PB{α:Type}(l:List (List UInt8×α))(k:List UInt8)(v:α):List (List UInt8×α):=
 match l with
 |[]=>[(k,v)]
 |x::r=>if k=x.1 then(x.1,v)::r else x::PB r k v
def L5{α:Type}(l:List (List UInt8×α))(k:List UInt8):Option α:=(l.find? fun x=>decide (k=x.1)).map (·.2)
def Uq(h:Zn es clock){e:MapEntry}(n:e.born=clock):Zn (es.push e) (clock+1):=by
 refine⟨?_,fun x i=>?_⟩
 .rw [Array.toList_push,x7n,x9k];refine⟨h.1,by simp,fun a ha b m=>?_⟩;obtain⟨x,i,rfl⟩:=x7d.1 ha;have:=h.2 x i;simp only[x8v,z2q,x7y]at m;omega
 .rw [Array.toList_push]at i;rcases x7b.1 i with i|i
  .have:=h.2 x i;omega
  .rw [x7y.1 i,n];omega
theorem Gf{α β:Type}(g:α->β)(f:α->α)(h:∀x,g (f x)=g x):∀(l:List α)(j:Nat),(l.modify j f).map g=l.map g
 |[],j=>by simp
 |x::r,0=>by simp[h]
 |x::r,j+1=>by simp[Gf g f h r j]
def LQ(h:Zn es clock)(j:Nat){f:MapEntry->MapEntry}(o:∀e,(f e).born=e.born):Zn (es.modify j f) clock:=by
 have e:(es.modify j f).toList.map (·.born)=es.toList.map (·.born):=by
  rw[Array.toList_modify];exact Gf _ f o _ j
 refine⟨by rw[e];exact h.1,fun x q=>?_⟩;have i:x.born∈(es.modify j f).toList.map (·.born):=x7d.2 ⟨x,q,rfl⟩;rw[e]at i;obtain⟨y,m,n⟩:=x7d.1 i;rw[<-n];exact h.2 y m
theorem OpK.makeMap{s:St}{o:Oper}{K:St->Prop}{t:TypeId}(q:o.op=.makeMap t none)(h:HC 60 0 s fun k=>setD N s.sl o.dst (.ext k .map) fun sl=>K ⟨sl,(k,.ext (IP []))::s.H⟩):OpK P N s o K:=by
 refine⟨fun σ β a w f Q=>?_⟩;obtain⟨k,z,h⟩:=UB h;have i:(Chunk.ext (IP [])).holds σ (β.set k (some ⟨w.heap.size,0,0,[],x7p _⟩)) (w.alloc (.map #[] 0)) k:=
  ⟨⟨w.heap.size,0,0,[],x7p _⟩,#[],0,by simp[Lab.set],heap_alloc_new w _,⟨.nil,fun x g=>by cases g⟩,rfl,by simp⟩
 obtain⟨r,c⟩:=f.new z rfl rfl i;obtain⟨sl,y,m⟩:=r.setD (v:=.ext k .map) (u:=.map (some w.heap.size)) (.ext k .map ⟨w.heap.size,0,0,[],x7p _⟩ _ (by simp[Lab.set]) rfl) h;exact XE (w':=w.alloc (.map #[] 0)) (by simp[execOp,q,Instr.makeMap]) ⟨σ,_,_,y,m,c⟩
def Ux(a b:List UInt8):((⟨a.toArray⟩:ByteArray)==⟨b.toArray⟩)=decide (a=b):=by
 show(a.toArray==b.toArray)=decide (a=b);by_cases h:a=b
 .subst h;simp
 .simp [h]
theorem FS{α:Type}(k:List UInt8):∀(es:List MapEntry)(l:List (List UInt8×α))(i:Nat),es.map (·.key)=l.map (fun x=>YS x.1)->
  Instr.findNow .string (YS k) es i=some (match l.findIdx? fun x=>decide (k=x.1)with
   |some j=>some (i+j,(es[j]?.map (·.val)).getD undef)
   |none=>none)
 |[],[],_,_=>rfl
 |[],_::_,_,h=>by cases h
 |_::_,[],_,h=>by cases h
 | e::es,x::l,i,h=>by
   simp only[x8v,List.cons.injEq]at h;have n:Instr.sameNow .string (YS k) e.key=some (decide (k=x.1)):=by
    rw[h.1];show some ((⟨k.toArray⟩:ByteArray)==⟨x.1.toArray⟩)=_;rw[Ux]
   rw[Instr.findNow,n,findIdx?_cons];by_cases m:k=x.1
   .simp [m]
   .simp only[m,decide_false];rw[FS k es l (i+1) h.2];cases l.findIdx? fun x=>decide (k=x.1)with
    |none=>rfl
    |some j=>simp;omega
def Zt{l:List (List UInt8×AV)}(n:es.size=(l.map fun x=>(YS x.1,x.2)).length)(o:∀(m:Nat)(x:Value×AV),(l.map fun x=>(YS x.1,x.2))[m]?=some x->∃e:MapEntry,es[m]?=some e/\e.key=x.1/\Rep σ x.2 e.val):
  es.toList.map (·.key)=l.map (fun x=>YS x.1):=by
 apply z2g;intro m;rw[x7k,x7k];cases i:l[m]?with
 | none=>
   have:es.toList[m]?=none:=by
    rw[List.getElem?_eq_none_iff]at i⊢;simp at n⊢;omega
   rw[this];rfl
 | some x=>
   obtain⟨e,q,r,_⟩:=o m (YS x.1,x.2) (by simp[i]);have h:es.toList[m]?=some e:=by simpa using q
   rw[h];simp[r]
def JJ{P:Program}{t:TypeId}(h:P.underlying t=some .string)(b:Bool)(k:List UInt8)(w:World):(Instr.checkKey b 10000 t (YS k)).run P w=.ok () w:=by
 have e:Instr.checkKey b 10000 t (YS k)=Instr.checkKey b (9999+1) t (YS k):=rfl;rw[e,Instr.checkKey,Sem.run_bind,run_underlying h,Result.andThen_ok];rfl
def TO{l:List UInt8}(h:RepL σ β (.p (.str l)) v):v=YS l:=h.strV.1
def UP{P:Program}{r:Nat}(h:w.heap[r]?=some (.map es clock)):(getObj r).run P w=.ok (.map es clock) w:=by simp[getObj,Sem.run,h]
def BL{P:Program}{r:Nat}(o:Obj)(h:w.heap[r]?=some (.map es clock)):(setObj r o).run P w=.ok () {w with heap:=w.heap.setIfInBounds r o}:=by simp[setObj,Sem.run,h]
theorem OpK.lookup(hT:TabOK P T){s:St}{o:Oper}{K:St->Prop}{t:TypeId}{x ix:Operand}(hop:o.op=.lookup t x ix false){k:Nat}(hx:QN s.sl x=.ext k .map){l:List (List UInt8×AV)}(hg:getH s.H k=some (.ext (IP l))){c:List UInt8}(hk:QN s.sl ix=.p (.str c)){i ik:TyI}{kt et:TypeId}(ht:T.get t=some i)(hd:i.desc=.map kt et)(htk:T.get kt=some ik)(M:ik.desc=.string){v:AV}(B:L5 l c=some v)(h:setD N s.sl o.dst (.p v) fun sl=>K ⟨sl,s.H⟩):OpK P N s o K:=by
 refine⟨fun σ β a w C Q=>?_⟩;have z:=QQ C.E x;have f:=QQ C.E ix;rw[hx]at z;rw[hk]at f;have Y:=TO f;generalize hxe:a.eval x=xv at z;cases z with
 | ext _ _ bi _ J L=>
   obtain rfl:xv=.map (some bi.blk):=L;obtain⟨bi',es,clock,q,hh,hbo,h1,h2⟩:=C.heap.chunks k _ (QJ hg);rw[J]at q;cases q;have r:=Zt h1 h2;have hu:=hT.of ht;have u:=hT.of htk;rw[hd]at hu;rw[M]at u;obtain⟨j,hj,V⟩ : ∃j,(l.findIdx? fun x=>decide (c=x.1))=some j/\∃x,l[j]?=some x/\x.2=v:=by
    unfold L5 at B;cases O:l.find? fun x=>decide (c=x.1)with
    |none=>rw[O]at B;cases B
    | some x=>
      rw[O]at B;cases B;obtain⟨D,j,g,G,I⟩:=List.find?_eq_some_iff_getElem.1 O;refine⟨j,?_,x,by rw[x7x g,G],rfl⟩;rw[List.findIdx?_eq_some_iff_getElem];exact⟨g,by rw[G];exact D,fun i hi=>by simpa using I i hi⟩
   obtain⟨y,U,rfl⟩:=V;obtain⟨e,D,G,I⟩:=h2 j (YS y.1,y.2) (by simp[U]);have m:=FS c es.toList l 0 r;rw[hj]at m;have F:es.toList[j]?=some e:=by simpa using D
   simp only[F,z0o,x9u]at m;have A:(execOp a.eval o).run P w=.ok (.value e.val) w:=by
    have R:(Instr.findKey kt (YS c) es.toList).run P w=.ok (some (0+j,e.val)) w:=by
     unfold Instr.findKey;rw[Sem.run_bind,run_underlying u,Result.andThen_ok,m];rfl
    have Z:(Instr.lookup t (.map (some bi.blk)) (YS c) false).run P w=.ok e.val w:=by
     unfold Instr.lookup;rw[Sem.run_bind,run_underlying hu,Result.andThen_ok];simp only[Sem.run_bind,UP hh,Result.andThen_ok,Sem.run_pure,JJ u,R];rfl
    simp only[execOp,hop,hxe,Y,Sem.run_bind,Z,Result.andThen_ok];rfl
   obtain⟨sl,hK,hr'⟩:=C.setD (.p I) h;exact XE A ⟨σ,β,_,hK,hr',Later.refl _ _ _ _⟩
def Jd{l:List (List UInt8×α)}{k:List UInt8}{v:α}(h:(l.findIdx? fun x=>decide (k=x.1))=none):PB l k v=l++[(k,v)]:=by
 induction l with
 |nil=>rfl
 | cons x r m=>
   rw[findIdx?_cons]at h;by_cases i:k=x.1
   .simp [i]at h
   .simp [i]at h;rw[PB,if_neg i,m (by simpa using h)];rfl
def Mi{l:List (List UInt8×α)}{k:List UInt8}{v:α}(h:(l.findIdx? fun x=>decide (k=x.1))=some j):∃x,l[j]?=some x/\PB l k v=l.set j (x.1,v):=by
 induction l generalizing j with
 |nil=>cases h
 | cons x r q=>
   rw[findIdx?_cons]at h;by_cases i:k=x.1
   .simp [i]at h;subst h;exact⟨x,rfl,by rw[PB,if_pos i];rfl⟩
   .simp [i]at h;obtain⟨t,m,rfl⟩:=h;obtain⟨y,n,o⟩:=q m;exact⟨y,by simpa using n,by rw[PB,if_neg i,o];rfl⟩
theorem OpK.mapUpdate(hT:TabOK P T){s:St}{o:Oper}{K:St->Prop}{t:TypeId}{x ix vx:Operand}(hop:o.op=.mapUpdate t x ix vx)(F:o.dst=none){k:Nat}(hx:QN s.sl x=.ext k .map){l:List (List UInt8×AV)}(hg:getH s.H k=some (.ext (IP l))){f:List UInt8}(hk:QN s.sl ix=.p (.str f)){v:AV}(hvx:QN s.sl vx=.p v){i ik:TyI}{kt et:TypeId}(ht:T.get t=some i)(hd:i.desc=.map kt et)(htk:T.get kt=some ik)(hdk:ik.desc=.string)(h:Jq s.H k (.ext (IP (PB l f v))) fun H=>K ⟨s.sl,H⟩):OpK P N s o K:=by
 refine⟨fun σ β a w A Q=>?_⟩;have hx':=QQ A.E x;have hk':=QQ A.E ix;have hv':=QQ A.E vx;rw[hx]at hx';rw[hk]at hk';rw[hvx]at hv';have hkv:=TO hk';generalize hxe:a.eval x=xv at hx';generalize hve:a.eval vx=vv at hv';cases hv' with
 |p hvr=>
 cases hx' with
 | ext _ _ B _ D hd'=>
   obtain rfl:xv=.map (some B.blk):=hd';obtain⟨bi',es,clock,M,hh,hbo,O,h2⟩:=A.heap.chunks k _ (QJ hg);rw[D]at M;cases M;have hkeys:=Zt O h2;have hu:=hT.of ht;have I:=hT.of htk;rw[hd]at hu;rw[hdk]at I;have u:=FS f es.toList l 0 hkeys;have G:=QD hg;have hlt:=(A.heap.apart k G B D B.blk B.has_blk).2;obtain⟨es',q,hrun,hbo',hsz,hent⟩ : ∃es' q,(Instr.mapUpdate t (.map (some B.blk)) (YS f) vv).run P w=.ok () {w with heap:=w.heap.setIfInBounds B.blk (.map es' q)}/\Zn es' q/\es'.size=(PB l f v).length/\
     ∀(m:Nat)(x:Value×AV),((PB l f v).map fun x=>(YS x.1,x.2))[m]?=some x->∃e:MapEntry,es'[m]?=some e/\e.key=x.1/\Rep σ x.2 e.val:=by
    cases g:l.findIdx? fun x=>decide (f=x.1)with
    | none=>
      rw[g]at u;refine⟨es.push {key:=YS f,val:=vv,born:=clock},clock+1,?_,Uq hbo rfl,?_,fun m y L=>?_⟩
      .have V:(Instr.findKey kt (YS f) es.toList).run P w=.ok none w:=by
        unfold Instr.findKey;rw[Sem.run_bind,run_underlying I,Result.andThen_ok,u];rfl
       unfold Instr.mapUpdate;rw[Sem.run_bind,run_underlying hu,Result.andThen_ok];simp only[Sem.run_bind,UP hh,Result.andThen_ok,Sem.run_pure,JJ I,V,BL _ hh]
      .rw [Jd g];simpa using O
      .rw [Jd g]at L;simp only[x7z]at O;rw[x7n,z1k]at L;split at L
       .rename_i J;obtain⟨e,C,h4⟩:=h2 m y L;simp only[x7z]at J;exact⟨e,by rw[z3x,if_neg (by omega)];exact C,h4⟩
       .rename_i J;simp only[x7z]at J L;have hm0:m-l.length=0:=by
         have:=(x7h.1 L).1;simp at this;omega
        rw[hm0]at L;simp at L;subst L;exact⟨{key:=YS f,val:=vv,born:=clock},by rw[z3x,if_pos (by omega)],rfl,hvr⟩
    | some j=>
      rw[g]at u;obtain⟨y,hy1,hy2⟩:=Mi (v:=v) g;obtain⟨e,C,h4,h5⟩:=h2 j (YS y.1,y.2) (by simp[hy1]);have hky:f=y.1:=by
       obtain⟨hlt,R,_⟩:=List.findIdx?_eq_some_iff_getElem.1 g;rw[x7x hlt]at hy1;cases hy1;simpa using R
      have h3':es.toList[j]?=some e:=by simpa using C
      have hjlt:j<es.size:=(x8x.1 C).1;simp only[h3',z0o,x9u,z0q]at u;have hek:e.key=YS f:=by rw[h4,hky]
      refine⟨es.modify j fun e=>{e with key:=YS f,val:=vv},clock,?_,LQ hbo j fun _=>rfl,?_,fun m z hz=>?_⟩
      .have V:(Instr.findKey kt (YS f) es.toList).run P w=.ok (some (j,e.val)) w:=by
        unfold Instr.findKey;rw[Sem.run_bind,run_underlying I,Result.andThen_ok,u];rfl
       have hkt:(Instr.keyThatStays (((es[j]?).map (·.key)).getD (YS f)) (YS f)).run P w=.ok (YS f) w:=by
        rw[C];simp only[z0o,x9u,hek];unfold Instr.keyThatStays;have:Instr.sameBits 10000 (YS f) (YS f)=true:=by
         unfold YS;show((⟨f.toArray⟩:ByteArray)==⟨f.toArray⟩)=true;rw[Ux];simp
        rw[if_pos this];rfl
       unfold Instr.mapUpdate;rw[Sem.run_bind,run_underlying hu,Result.andThen_ok];simp only[Sem.run_bind,UP hh,Result.andThen_ok,Sem.run_pure,JJ I,V,hkt,BL _ hh]
      .rw [hy2];simpa using O
      .rw [hy2,x8o]at hz;by_cases J:m=j
       .subst J;rw[x9j (by simp at O⊢;omega)]at hz;cases hz;exact⟨{e with key:=YS f,val:=vv},by simp[z1m,C],by rw[hky],hvr⟩
       .rw [x9p (z1d J)]at hz;obtain⟨e',R,h7⟩:=h2 m z hz;exact⟨e',by rw[z1m,if_neg (z1d J)];exact R,h7⟩
   have hrun':(execOp a.eval o).run P w=.ok .skip {w with heap:=w.heap.setIfInBounds B.blk (.map es' q)}:=by
    simp only[execOp,hop,hxe,hkv,hve,Sem.run_bind,hrun,Result.andThen_ok];rfl
   obtain⟨H',hK,C,h4,h5⟩:=US A.heap.nodup h;have hot:∀b,b≠B.blk->({w with heap:=w.heap.setIfInBounds B.blk (.map es' q)}:World).heap[b]?=w.heap[b]?:=fun b U=>z1v (z1d U);have Y:HRel σ β H' {w with heap:=w.heap.setIfInBounds B.blk (.map es' q)}:=by
    refine⟨fun b c U=>?_,fun j c g=>?_,by rw[C];exact A.heap.nodup,fun j g i' Z b U=>?_,fun j g j' hj'=>A.heap.inj j (C▸g) j' (C▸hj')⟩
    .obtain ⟨e,fr,R⟩:=A.heap.mem b c U;exact⟨e,fr,(hot b fun he=>by rw[he,hh]at R;cases R).trans R⟩
    .by_cases hjk:j=k
     .subst hjk;rw[h5 c g];exact⟨B,es',q,D,by simp[hlt],hbo',by simpa using hsz,hent⟩
     .have J:=h4 j c g hjk;exact(A.heap.chunks j c J).mono (Mem.le_refl σ) fun i' Z b U=>hot b fun he=>hjk (A.heap.inj j (x7d.2 ⟨_,J,rfl⟩) k G i' B Z D b U (.inl he.symm))
    .have:=A.heap.apart j (C▸g) i' Z b U;exact⟨this.1,by simpa using this.2⟩
   refine Qd hrun' ⟨σ,β,⟨s.sl,H'⟩,hK,⟨?_,?_,?_,Y⟩,Mem.le_refl σ,⟨rfl,rfl,rfl,x7s _,by simp,fun b _ hn=>hot b fun he=>hn ⟨k,G,B,D,.inl he.symm⟩⟩,fun b h0 O=>absurd h0 O,fun b ⟨j,g,r⟩=>.inl ⟨j,C▸g,r⟩,fun _ _ _=>rfl⟩
   .rw [F];exact A.size
   .rw [F];exact A.defers
   .rw [F];exact A.E
end
def ZA(i:Str)(h:List Str):List Arg->List Str->Bool
 |[],_=>true
 |a::r,seen=>bif a.ref then bif (seen.any fun s=>a.name==s)||((a.name==i)||h.any fun s=>a.name==s)then false else ZA i h r (seen++[a.name])else ZA i h r seen
def P7(t:S)(h:List Str)(ha:t.args.length<=21000):SpecP prog 157 [.agg t.cells,eStrs h] (fun r=>r=.bool (ZA t.name h t.args [])):=by
 refine sB Jt func157 rfl call157 ?_;conv=>whnf
 repeat' (refine iM fun _=>?_;conv=>whnf)
 have x:(t.args.map fun a=>AV.agg a.cells).length=t.args.length:=x7z _;refine LoopK.inv QV (fun i:Nat×List Str=>⟨[(1,.p (eStrs h)),(2,.p (.ip t.cells)),(5,.hd 0 0 i.2.length),(9,.p (.sl (t.args.map fun a=>.agg a.cells))),(10,.p (.int .i64 (t.args.map fun a=>AV.agg a.cells).length)),(11,.j i.1)],[(0,.own 9 1 (i.2.map .str))]⟩)
  (fun i=>i.1<=t.args.length/\i.2.length<=i.1/\ZA t.name h (t.args.drop i.1) i.2=ZA t.name h t.args []) (fun i=>t.args.length-i.1) (0,[])
  (Le.mk [(0,.own 9 1 [])] (by simp[Chunk.new0];rfl) (by simp) (by simp) (.r (.r (.cons (.nil x7v) (.r (.r (.r .nil)))))) (.new x7v .nil))
  ⟨x7p _,x7s _,rfl⟩ ?_
 rintro⟨j,m⟩ ⟨q,u,n⟩;simp only at q u n⊢;rcases x7m j t.args.length with o|o
 .rw [x8b o,ZA]at n;conv=>whnf
  repeat' (first|((first|refine cP (QX _ _) ?_|refine x7g rfl ?_|refine aD ?_|refine bP ?_|(refine iA fun _=>?_)|refine wI ?_|(refine XH (QX m (t.args[j]'o).name) (.cons (.hd rfl (by simp)) (.cons (.p (Sub.refl _)) .nil)) (by rintro _ rfl;rfl) ?_;rintro _ rfl)|refine QO (by simp) (by simp;omega) ?_);conv=>whnf)|(apply bD<;>intro _<;>first|omega|conv=>whnf)|(apply bN<;>intro _<;>conv=>whnf)|(apply bB<;>intro _<;>conv=>whnf))
  all_goals first
   |exact RetK.ff (by rw[<-n];simp[*])
   |exact⟨(j+1,m++[t.args[j].name]),⟨by simp only;omega,by simp;omega,by simp only;rw[<-n];simp[*]⟩,by simp only;omega,Le.of_eq (by simp only[x7u,x7n];rfl)⟩
   |exact⟨(j+1,m),⟨by simp only;omega,by simp only;omega,by simp only;rw[<-n];simp[*]⟩,by simp only;omega,Le.of_eq rfl⟩
 .rw [x7e o,ZA]at n;conv=>whnf
  repeat' (apply bD<;>intro _<;>first|omega|conv=>whnf)
  exact RetK.tt n.symm
def GZ(p:Pg):Int×Int:=
 if(VZ p).1≠0 then(1,0)else match(VD p).find? fun t=>decide (t.kind=4) && !ZA t.name (FO p t.D) t.args []with
  |some t=>(8,t.id)
  |none=>(0,0)
def Oz(h:(VZ p).1=0):(QI p).1=0/\(VD p).find? (fun t=>decide (t.kind=4) && !FC p t)=none:=by
 unfold VZ at h;split at h
 .cases h
 .rename_i i;refine⟨by omega,?_⟩;split at h
  .cases h
  .assumption
def q2u{l:List (Str×AV)}{k:Str}{v:AV}{x:Str×AV}(h:x∈PB l k v):x∈l\/x=(k,v):=by
 induction l with
 |nil=>rw[PB]at h;exact .inr (by simpa using h)
 | cons y r m=>
   rw[PB]at h;split at h
   .rename_i i;rcases x7f.1 h with h|h
    .exact .inr (by rw[h,i])
    .exact .inl (x7j _ h)
   .rcases x7f.1 h with h|h
    .exact .inl (by rw[h];exact x7v)
    .exact (m h).imp (x7j _) id
def q2v{l:List (Str×AV)}{k:Str}{v:AV}(h:s=k\/∃x∈l,x.1=s):∃x∈PB l k v,x.1=s:=by
 induction l with
 | nil=>
   rcases h with rfl|⟨x,i,_⟩
   .exact ⟨(s,v),by rw[PB];exact x7v,rfl⟩
   .cases i
 | cons y r o=>
   rw[PB];split
   .rename_i q;rcases h with rfl|⟨x,i,rfl⟩
    .exact ⟨(y.1,v),x7v,q.symm⟩
    .rcases x7f.1 i with rfl|i
     .exact ⟨(x.1,v),x7v,rfl⟩
     .exact ⟨x,x7j _ i,rfl⟩
   .rcases h with rfl|⟨x,i,rfl⟩
    .obtain ⟨z,n,m⟩:=o (.inl rfl);exact⟨z,x7j _ n,m⟩
    .rcases x7f.1 i with rfl|i
     .exact ⟨x,x7v,rfl⟩
     .obtain ⟨z,n,m⟩:=o (.inr ⟨x,i,rfl⟩);exact⟨z,x7j _ n,m⟩
def q5f{l:List (Str×AV)}{g:Str->AV}(h:∀x∈l,x.2=g x.1){k:Str}(o:∃x∈l,x.1=k):L5 l k=some (g k):=by
 unfold L5;cases i:l.find? fun x=>decide (k=x.1)with
 | none=>
   obtain⟨x,q,rfl⟩:=o;have:=z0t.1 i x q;simp at this
 | some x=>
   have n:=z0g i;have m:=z1j i;simp at m;simp[h x n,m]
def Lm(p:Pg)(H:Fit p):SpecP prog 92 [.agg p.cells] (fun r=>r=Kc (GZ p).1 (GZ p).2):=by
 refine sB Hp func92 rfl call92 ?_;conv=>whnf
 repeat' (first|((first|refine cP (U8 p H) ?_|refine x7g rfl ?_);conv=>whnf)|(apply bE<;>intro _<;>first|omega|conv=>whnf))
 rotate_left 1
 .have e:GZ p=(1,0):=by unfold GZ;rw[if_pos (by assumption)]
  exact QS (by rw[e]) (by rw[e])
 have F:(VZ p).1=0:=by assumption
 obtain⟨Q,_⟩:=Oz F;obtain⟨u,hb,hns⟩:=KK Q;obtain⟨hg,hpl,Z⟩:=WO u;have hl:(p.A.map fun f=>AV.agg f.cells).length=p.A.length:=x7z _;repeat' ((first|(refine iM fun _=>?_)|refine OpK.makeMap rfl ?_);conv=>whnf)
 refine LoopK.inv QV (fun i:Nat×List (Str×AV)=>⟨[(1,.p (.ip p.cells)),(2,.ptr 1 0),(3,.ext 0 .map),(15,.p (.sl (p.A.map fun f=>.agg f.cells))),(16,.p (.int .i64 (p.A.map fun f=>AV.agg f.cells).length)),(17,.j i.1)],[(0,.ext (IP i.2)),(1,.obj 85 [.p (.int .i64 0),.j 0])]⟩)
  (fun i=>i.1<=p.A.length/\(∀x∈i.2,x.2=eStrs (FO p x.1))/\∀(m:Nat)(u:m<p.A.length),m<i.1->∃x∈i.2,x.1=p.A[m].name) (fun i=>p.A.length-i.1) (0,[])
  (Le.of_eq rfl) ⟨x7p _,by simp,by intro m u h;omega⟩ ?_
 rintro⟨j,l⟩ ⟨Y,B,C⟩;simp only at Y B C⊢;rcases x7m j p.A.length with U|U
 .have L:p.A[j].name∈procsN p:=x7d.2 ⟨_,x7l U,rfl⟩;conv=>whnf
  repeat' (first|((first|refine cP (De p H Q _ L) ?_|refine dA ?_|refine x7g rfl ?_|(refine iA fun _=>?_)|refine wI ?_|refine OpK.mapUpdate QV rfl rfl rfl rfl rfl rfl rfl rfl rfl rfl ?_);conv=>whnf)|(apply bD<;>intro _<;>first|omega|conv=>whnf))
  refine⟨(j+1,PB l p.A[j].name (eStrs (FO p p.A[j].name))),⟨by simp only;omega,fun x R=>?_,fun m u h=>?_⟩,by simp only;omega,Le.of_eq rfl⟩
  .rcases q2u R with R|rfl
   .exact B x R
   .rfl
  .refine q2v ?_;rcases x7m m j with c|c
   .exact .inr (C m u c)
   .obtain rfl:m=j:=by simp only at h;omega
    exact .inl rfl
 have J:∀n∈procsN p,L5 l n=some (eStrs (FO p n)):=fun n L=>q5f (g:=fun n=>eStrs (FO p n)) B (by
  obtain⟨f,o,rfl⟩:=x7d.1 L;obtain⟨m,u,rfl⟩:=List.getElem_of_mem o;exact C m u (by omega))
 clear B C;conv=>whnf
 repeat' (first|((first|(refine iM fun _=>?_)|(refine CallK.pure (HW p (by omega) (by omega)) (.cons (Sub.refl _) .nil) ?_;rintro _ rfl));conv=>whnf)|(apply bD<;>intro _<;>first|omega|conv=>whnf))
 have F:GZ p=match(VD p).find? fun t=>decide (t.kind=4) && !ZA t.name (FO p t.D) t.args []with
  |some t=>(8,t.id)
  |none=>(0,0):=by unfold GZ;rw[if_neg (by omega)]
 have hil:=VV (sheetOf p).l;have hib:(sheetOf p).l.length<=200:=by have:=(QU p).2.2.2.1;omega
 have z:=BY (q:=fun t=>decide (t.kind=4) && !ZA t.name (FO p t.D) t.args []) (sheetOf p).l;rw[JS]at z;have G:GZ p=match((sheetOf p).l.find? fun it=>decide (it.s.kind=4) && !ZA it.s.name (FO p it.s.D) it.s.args []).map (fun it=>it.s.id)with
  |some a=>(8,a)
  |none=>(0,0):=by
  rw[F,z];cases(VD p).find? fun t=>decide (t.kind=4) && !ZA t.name (FO p t.D) t.args []<;>rfl
 rw[G];refine LoopK.inv QV (fun k:Nat=>⟨[(2,.ptr 1 0),(3,.ext 0 .map),(33,.p (VL (sheetOf p).l)),(34,.p (.int .i64 ((sheetOf p).l.map fun i=>AV.agg i.cells).length)),(35,.j k)],[(0,.ext (IP l)),(1,.obj 85 [.p (.int .i64 0),.j 0])]⟩)
  (fun k=>k<=(sheetOf p).l.length/\((sheetOf p).l.drop k).find? (fun it=>decide (it.s.kind=4) && !ZA it.s.name (FO p it.s.D) it.s.args [])=(sheetOf p).l.find? fun it=>decide (it.s.kind=4) && !ZA it.s.name (FO p it.s.D) it.s.args []) (fun k=>(sheetOf p).l.length-k) 0 (Le.of_eq rfl) ⟨x7p _,rfl⟩ ?_
 rintro k ⟨h5,E⟩;rcases x7m k (sheetOf p).l.length with y|y;rotate_left 1
 .rw [<-E,BU y];conv=>whnf
  repeat' (first|(refine x7g rfl ?_;conv=>whnf)|(apply bD<;>intro _<;>first|omega|conv=>whnf))
  exact QS rfl rfl
 have hw:=H9 H y;have M:(sheetOf p).l[k].s.args.length<=21000:=by
  have:=RJ (sheetOf p).l[k].s;have:=DS (sheetOf p).l[k].s.args;omega
 have O:(sheetOf p).l[k].s.kind=4->(sheetOf p).l[k].s.D∈procsN p:=fun K=>by
  have d:(sheetOf p).l[k].s∈VD p:=by
   rw[<-JS];exact x7d.2 ⟨_,x7l y,rfl⟩
  unfold VD at d;obtain⟨f,o,I⟩:=x8h.1 d;exact(H6 Q o I K).1
 conv=>whnf
 repeat' (first|((first|refine cP (P7 _ _ M) ?_|refine x7g rfl ?_|(refine iA fun _=>?_)|refine wI ?_|refine OpK.lookup QV rfl rfl rfl rfl rfl rfl rfl rfl (J _ (O (by omega))) ?_);conv=>whnf)|(apply bD<;>intro _<;>first|omega|conv=>whnf)|(apply bN<;>intro _<;>conv=>whnf))
 all_goals first
  | (have V:=BJ (p:=fun it:Item=>decide (it.s.kind=4) && !ZA it.s.name (FO p it.s.D) it.s.args []) y (by simp[*])
     rw[<-E,V];exact QS rfl rfl)
  |exact⟨k+1,⟨by omega,by rw[<-E,Xz (p:=fun it:Item=>decide (it.s.kind=4) && !ZA it.s.name (FO p it.s.D) it.s.args []) y (by simp[*])]⟩,by omega,Le.of_eq rfl⟩
def q4f(p:Pg):Int×Int:=
 if KR p=false then(1,0)else
 if(QI p).1≠0 then QI p else
 if(VZ p).1≠0 then VZ p else
 if(BO p).1≠0 then BO p else GZ p
def Aq(p:Pg)(h:Fit p):SpecP prog 48 [.agg p.cells] (fun r=>r=Kc (q4f p).1 (q4f p).2):=by
 refine sB L8 func48 rfl call48 ?_;conv=>whnf
 repeat' (first|((first|refine cP (Vp _) ?_|refine cP (JT p h) ?_|refine cP (U8 p h) ?_|refine cP (SN p h) ?_|refine cP (Lm p h) ?_|refine x7g rfl ?_);conv=>whnf)|(apply bD<;>intro _<;>first|omega|conv=>whnf)|(apply bN<;>intro _<;>conv=>whnf))
 all_goals exact QS (by unfold q4f;simp[*]) (by unfold q4f;simp[*])
def chkB(p:Pg):Bool:=decide ((q4f p).1=0)
def Uu(p:Pg)(h:Fit p):SpecP prog 12 [.agg p.cells] (fun r=>r=.bool (chkB p)):=by
 refine sB L9 func12 rfl call12 ?_;conv=>whnf
 repeat' (refine cP (Aq p h) ?_;conv=>whnf)
 exact RetK.bool rfl
def QR(x:Int):Int:=if x = -1 then 9223372036854775807 else x
def Pc(x:Int):SpecP prog 119 [.int .i64 x] (fun r=>r=.int .i64 (QR x)):=by
 refine sB Lq func119 rfl call119 ?_;conv=>whnf
 repeat' (apply bD<;>intro _<;>first|omega|conv=>whnf)
 all_goals exact RetK.int (by unfold QR;simp[*])
def Jo(x:Int):SpecP prog 188 [.int .i64 x] (fun r=>r=.bool false):=by
 refine sB W7 func188 rfl call188 ?_;conv=>whnf
 skip
 exact RetK.bool (by simp)
def Bq(x y:Int):Int:=if x<y then -1 else if y<x then 1 else 0
def HT(x y:Int):SpecP prog 118 [.int .i64 x,.int .i64 y] (fun r=>r=.int .i64 (Bq x y)):=by
 refine sB MJ func118 rfl call118 ?_;conv=>whnf
 repeat' (first|(refine cP (Jo _) ?_;conv=>whnf)|(apply bD<;>intro _<;>first|omega|conv=>whnf)|(apply bB<;>intro _<;>conv=>whnf))
 all_goals first
  |contradiction
  |exact RetK.int (by unfold Bq;simp[*])
  |exact RetK.int (by unfold Bq;rw[if_neg (by assumption),if_pos (by omega)])
  |exact RetK.int (by unfold Bq;rw[if_neg (by assumption),if_neg (by omega)])
def orI:List Int->Int
 |[]=>0
 |a::r=>if a=0 then orI r else a
def Uy(l:List Int):SpecP prog 117 [QB l] (fun r=>r=.int .i64 (orI l)):=by
 refine sB Hm func117 rfl call117 ?_;conv=>whnf
 repeat' (refine iM fun _=>?_;conv=>whnf)
 have n:(l.map (AV.int .i64)).length=l.length:=x7z _;refine LoopK.inv QV (fun j:Nat=>⟨[(3,.j 0),(6,.p (QB l)),(7,.p (.int .i64 (l.map (AV.int .i64)).length)),(8,.j j)],[]⟩) (fun j=>j<=l.length/\orI (l.drop j)=orI l) (fun j=>l.length-j) 0 (Le.of_eq rfl) ⟨x7p _,rfl⟩ ?_;rintro j ⟨m,h⟩;rcases x7m j l.length with i|i
 .rw [x8b i,orI]at h;conv=>whnf
  repeat' (first|((first|(refine iA fun _=>?_)|refine wI ?_);conv=>whnf)|(apply bD<;>intro _<;>first|omega|conv=>whnf)|(apply bE<;>intro _<;>first|omega|conv=>whnf))
  all_goals first
   |exact RetK.int (by rw[<-h,if_neg (by assumption)])
   |exact⟨j+1,⟨by omega,by rw[<-h,if_pos (by assumption)]⟩,by omega,Le.of_eq rfl⟩
   |exact⟨j+1,⟨by omega,by rw[<-h,if_pos (by simp_all)]⟩,by omega,Le.of_eq rfl⟩
 .rw [x7e i,orI]at h;conv=>whnf
  repeat' (apply bD<;>intro _<;>first|omega|conv=>whnf)
  exact RetK.int h
def LR(l:List S)(o:Int):Int:=match l with
 |[]=>o
 |t::_=>t.id
def Ai(l:List S)(o:Int):SpecP prog 270 [.sl (l.map fun t=>.agg t.cells),.int .i64 o] (fun r=>r=.int .i64 (LR l o)):=by
 refine sB Lz func270 rfl call270 ?_;conv=>whnf
 repeat' (first|(refine iM fun _=>?_;conv=>whnf)|(apply bD<;>intro _<;>first|omega|conv=>whnf))
 .cases l with
  |nil=>simp at*
  | cons t r=>
    refine IdxK.at (k:=0) rfl rfl rfl ?_;exact RetK.int rfl
 .cases l with
  |nil=>exact RetK.int rfl
  |cons t r=>simp at*
def ZK(a b:Step):Bool:=decide (a.src=b.src)&&decide (a.dst=b.dst)
def Ul(a b:Step):SpecP prog 231 [.agg a.cells,.agg b.cells] (fun r=>r=.bool (ZK a b)):=by
 refine sB Hr func231 rfl call231 ?_;conv=>whnf
 repeat' (apply bD<;>intro _<;>first|omega|conv=>whnf)
 all_goals first
  |exact RetK.bool (show(a.dst==b.dst)=ZK a b by unfold ZK;simp[*];rfl)
  |exact RetK.ff (by unfold ZK;simp[*])
def RX(a b:Step):Int:=orI [Bq (QR a.src) (QR b.src),Bq (QR a.dst) (QR b.dst),Bq a.kind b.kind]
def R3(a b:Step):SpecP prog 229 [.agg a.cells,.agg b.cells] (fun r=>r=.int .i64 (RX a b)):=by
 refine sB Hl func229 rfl call229 ?_;conv=>whnf
 repeat' ((first|refine cP (Pc _) ?_|refine cP (HT _ _) ?_|refine cP (Uy [Bq (QR a.src) (QR b.src),Bq (QR a.dst) (QR b.dst),Bq a.kind b.kind]) ?_|refine dA ?_|refine x7g rfl ?_|refine aD ?_|refine BsK.pureL rfl rfl ?_);conv=>whnf)
 exact RetK.int rfl
end Go.Ab
