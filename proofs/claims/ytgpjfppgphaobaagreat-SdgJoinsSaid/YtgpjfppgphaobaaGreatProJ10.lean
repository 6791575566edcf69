/- The library's contracts at this seat's program, in plain words (printed by the kit's lay-plain.mjs). Conditions: none. -/
import Derived.Shelf.Sort.Plain
import Derived.Shelf.Slices.In.SortNone
import Derived.Shelf.Slices.CompactS
import Derived.Ground.Names2Prog
import Derived.Shelf.Slices.SearchI
import Derived.Shelf.Slices.Empties
import Derived.Shelf.Spec.SlicesInsert
import Derived.Shelf.Spec.SlicesInsertGrow
import Derived.Test.YtgpjfppgphaobaaGreatProg
import Derived.Test.YtgpjfppgphaobaaGreatProJ9
set_option linter.all false
set_option maxRecDepth 100000
set_option maxHeartbeats 16000000
namespace Go.Proofs
open Go.Shelf Tryz
def Tryz.lays190_ren:Go.Shelf.Ren:=⟨fun|190=>86|125=>150|258=>149|128=>200|129=>201|302=>191|303=>192|304=>193|305=>194|306=>195|307=>196|308=>197|309=>198|310=>199|333=>244|329=>245|330=>246|334=>247|335=>248|336=>181|344=>269|n=>n,fun|31=>22|9=>9|3=>3|46=>210|0=>0|51=>249|53=>251|4=>4|183=>242|182=>241|131=>90|5=>5|218=>281|222=>285|228=>303|229=>304|n=>n,fun|n=>n⟩
theorem kT9{α:Type}{x:Option α}{a b:α}(h:x=some a)(e:a=b:=by kernel_rfl):x=some b:=e▸h
def V7:Go.Proofs.Lays.n190 Tryz.prog Tryz.lays190_ren:=⟨by kernel_rfl,kT9 func150,kT9 func200,kT9 func201,kT9 func86,kT9 func149,kT9 func191,kT9 func192,kT9 func193,kT9 func194,kT9 func195,kT9 func196,kT9 func197,kT9 func198,kT9 func199,kT9 func245,kT9 func246,kT9 func244,kT9 func247,kT9 func248,kT9 func181,kT9 func269,underlying0,isAgg0,sizeOf0,zeroValue0,underlying3,isAgg3,sizeOf3,zeroValue3,underlying4,isAgg4,sizeOf4,zeroValue4,underlying5,isAgg5,sizeOf5,zeroValue5,underlying9,isAgg9,sizeOf9,zeroValue9,underlying22,isAgg22,sizeOf22,zeroValue22,underlying210,isAgg210,sizeOf210,zeroValue210,underlying249,isAgg249,sizeOf249,zeroValue249,underlying251,isAgg251,sizeOf251,zeroValue251,underlying90,isAgg90,sizeOf90,zeroValue90,underlying241,isAgg241,sizeOf241,zeroValue241,underlying242,isAgg242,sizeOf242,zeroValue242,underlying281,isAgg281,sizeOf281,zeroValue281,underlying285,isAgg285,sizeOf285,zeroValue285,underlying303,isAgg303,sizeOf303,zeroValue303,underlying304,isAgg304,sizeOf304,zeroValue304⟩
def Tryz.lays194_ren:Go.Shelf.Ren:=⟨fun|194=>148|n=>n,fun|31=>22|9=>9|3=>3|4=>4|0=>0|n=>n,fun|n=>n⟩
def V8:Go.Proofs.Lays.n194 Tryz.prog Tryz.lays194_ren:=⟨by kernel_rfl,kT9 func148,underlying0,isAgg0,sizeOf0,zeroValue0,underlying3,isAgg3,sizeOf3,zeroValue3,underlying4,isAgg4,sizeOf4,zeroValue4,underlying9,isAgg9,sizeOf9,zeroValue9,underlying22,isAgg22,sizeOf22,zeroValue22⟩
def Tryz.laysB_ren:Go.Shelf.Ren:=⟨fun|25=>267|31=>285|32=>286|37=>172|n=>n,fun|22=>56|3=>3|4=>4|40=>210|0=>0|n=>n,fun|n=>n⟩
def Hd:Go.Proofs.Lays2.n25 Tryz.prog Tryz.laysB_ren:=⟨by kernel_rfl,kT9 func267,kT9 func285,kT9 func286,kT9 func172,underlying0,isAgg0,sizeOf0,zeroValue0,underlying3,isAgg3,sizeOf3,zeroValue3,underlying4,isAgg4,sizeOf4,zeroValue4,underlying56,isAgg56,sizeOf56,zeroValue56,underlying210,isAgg210,sizeOf210,zeroValue210⟩
def Tryz.laysI_ren:Go.Shelf.Ren:=⟨fun|21=>268|27=>287|28=>288|35=>292|39=>294|n=>n,fun|22=>56|3=>3|4=>4|0=>0|n=>n,fun|n=>n⟩
def HQ:Go.Proofs.Lays2.n21 Tryz.prog Tryz.laysI_ren:=⟨by kernel_rfl,kT9 func268,kT9 func287,kT9 func288,kT9 func292,kT9 func294,underlying0,isAgg0,sizeOf0,zeroValue0,underlying3,isAgg3,sizeOf3,zeroValue3,underlying4,isAgg4,sizeOf4,zeroValue4,underlying56,isAgg56,sizeOf56,zeroValue56,by kernel_rfl⟩
end Go.Proofs
namespace Go.Ab
open Go.Proofs.Tryz
open Go.Proofs Go.Sort
variable {α:Type}{b clock j k:Nat}{e:TypeId}{es:Array MapEntry}{l:List Str}{p:Pg}{s:Str}{v:Value}{vs:Array Value}{w:World}{β:Lab}{σ:Mem}
def Pj{c c':Chunk}{w':World}{i:BInfo}(h:HRel σ β [(k,c)] w)(y:β k=some i)(q:Frm (fun b=>b=i.blk) w w')(u:c'.holds σ β w' k):HRel σ β [(k,c')] w'/\Later σ β [(k,c)] w σ β [(k,c')] w':=by
 have r:=h.apart k (by simp) i y;refine⟨⟨fun b cs m=>?_,fun j d n=>?_,by simp,fun j n i' o b m=>?_,fun j n B t _ _ _ _ _ _ _=>?_⟩,Mem.le_refl σ,⟨q.os,q.tape,q.output,q.drawn,q.size,fun b m A=>q.block b m fun x=>A ⟨k,by simp,i,y,.inl x.symm⟩⟩,
  fun b f g=>absurd f g,fun b ⟨j,n,i',o,m⟩=>.inl ⟨j,by simpa using n,i',o,m⟩,fun _ _ _=>rfl⟩
 .obtain ⟨e,a,z⟩:=h.mem b cs m;exact⟨e,a,(q.block b (x9k.1 z).1 fun x=>by rw[x,(r _ i.has_blk).1]at m;cases m).trans z⟩
 .simp at n;obtain⟨rfl,rfl⟩:=n;exact u
 .simp at n;subst n;rw[y]at o;cases o;exact⟨(r b m).1,z2b (r b m).2 q.size⟩
 .simp at n t;rw[n,t]
def YY(h:w.heap[b]?=some (.cells vs e (0,0)))(o:Nat):w.frozen? ⟨b,o,none⟩=false:=by
 simp[World.frozen?,h]
def FQ(h:w.heap[b]?=some (.cells vs e (0,0)))(o:Nat):w.cell? ⟨b,o,none⟩=vs[o]?:=by
 simp[World.cell?,h]
def V2[Inhabited α]{enc:α->Value}{n:Nat}{d:Array α}{os:Array Obj}(h:w.heap[b]?=some (.cells vs e (0,0)))(m:b<w.heap.size):
  Frm (fun x=>x=b) w (grow (putRow enc (Sort.ahead w n) b 0 d) os)/\(grow (putRow enc (Sort.ahead w n) b 0 d) os).heap[b]?=some (.cells (putCells enc 0 d vs) e (0,0)):=by
 have i:(grow (putRow enc (Sort.ahead w n) b 0 d) os).heap=w.heap.modify b (onCells (putCells enc 0 d))++os:=rfl;refine⟨⟨rfl,rfl,rfl,Nat.le_add_right _ _,?_,fun k o q=>?_⟩,?_⟩
 .rw [i];simp
 .rw [i,z3u (by simpa using o),z2j,if_neg (z2x q)]
 .rw [i,z3u (by simpa using m),z2j,if_pos rfl,h];rfl
def BN[Inhabited α]{enc:α->Value}{d:Array α}(m:d.size<=vs.size)(i:k<d.size):(putCells enc 0 d vs)[k]?=some (enc d[k]):=by
 unfold putCells;have h:k<vs.size:=by omega
 simp[h,i]
def Cy(h:∀(m:Nat)(x:AV),(l.map AV.str)[m]?=some x->x.cells.length=1/\∀(j:Nat)(c:AV),x.cells[j]?=some c->∃u:Value,vs[m*1+j]?=some u/\Rep σ c u)(q:j<l.length):
  vs[j]?=some (encStr l[j])/\l[j].length<=maxLen:=by
 obtain⟨u,i,n⟩:=(h j (.str l[j]) (by simp[q])).2 0 (.str l[j]) rfl;cases n with
 |str _ o=>exact⟨by simpa using i,o⟩
def Cj(h:∀j (n:j<l.length),vs[j]?=some (encStr l[j]))(t:∀s∈l,s.length<=maxLen):∀(m:Nat)(x:AV),(l.map AV.str)[m]?=some x->x.cells.length=1/\∀(j:Nat)(c:AV),x.cells[j]?=some c->∃u:Value,vs[m*1+j]?=some u/\Rep σ c u:=by
 intro m x i;rw[x8n]at i;cases q:l[m]?with
 |none=>rw[q]at i;cases i
 | some s=>
   rw[q]at i;cases i;obtain⟨r,rfl⟩:=x8t.1 q;refine⟨rfl,fun j c n=>?_⟩;have o:j=0:=by
    have:=(x8t.1 n).1;simpa[AV.cells]using this
   subst o;simp only[AV.cells,z4m,z2f]at n;subst n;exact⟨_,by simpa using h m r,.str _ (t _ (x8o r))⟩
def x2d{m:Array Value}{l:LV}(h:m.size=[l].length):∃v,m=#[v]:=⟨m[0]'(by simp at h;omega),by apply Array.ext;simpa using h;intro i o n;simp at n;subst n;rfl⟩
def Mn{n:Nat}{i:BInfo}(h:RepL σ β (.hd k 0 n) v)(r:β k=some i):v=.slice (some ⟨i.blk,0,none⟩) n i.cap:=by
 rcases h.hdI with⟨m,_⟩|⟨i',o,m,u,q,t⟩
 .rw [r]at m;cases m
 .rw [r]at m;cases m;rcases q with q|q
  .rw [t,q];simp
  .omega
def Sl{n:Nat}(h:RepL σ β (.hd k 0 n) v)(m:β k=none):v=.slice none 0 0/\n=0:=by
 rcases h.hdI with⟨_,_,q,r⟩|⟨i',o,i,_⟩
 .exact ⟨r,q⟩
 .rw [m]at i;cases i
def UF(l:List Str):List Str:=l.mergeSort fun x y=>decide (x<=y)
def VI(l:List Str)(F:l.length<=1000000000):
  SpecH prog 86 [.hd 1000 0 l.length] [(1000,.own 9 1 (l.map .str))] (fun r H=>r=.p (.tup [])/\H=[(1000,.own 9 1 ((UF l).map .str))]):=by
 refine⟨call86,fun σ β w I R q hH=>?_⟩;obtain⟨v,rfl⟩:=x2d R;have q:=q 0 _ rfl;simp only[z2l,x9s,z3j,Array.getD_eq_getD_getElem?]at q;have q:RepL σ β (.hd 1000 0 l.length) v:=by simpa using q
 have c:=hH.chunks 1000 _ x8p;have h:(UF l).length=l.length:=by unfold UF;simp
 rcases c with⟨a,f⟩|⟨i,vs,y,B,g,D,E,J,K⟩
 .have A:l=[]:=by simpa using f
  subst A;obtain⟨rfl,_⟩:=Sl q a;have t:=Any.slices_Sort_string_none V7 none 0 w;change Calls prog 86 _ _ _ at t;refine t.mono ?_;rintro e w' ⟨rfl,rfl⟩;exact⟨.p (.tup []),.tuple #[],σ,β,_,rfl,⟨rfl,rfl⟩,.p (.tup [] #[] (fun _=>undef) rfl (by simp) (by simp)),by simpa[UF]using hH,by simpa[UF]using Later.refl _ _ _ _⟩
 .have C:=Mn q y;subst C;have x:=(hH.apart 1000 (by simp) i y i.blk i.has_blk).2;have Q:l.length<=vs.size:=by rw[D,z4w];simpa using E
  have m:=fun j o=>Cy (σ:=σ) (l:=l) K (j:=j) o;have t:=Any.slices_Sort_string V7 i.blk 0 i.cap l w (fun j o=>by
   have u:j<l.length:=by simpa using o
   refine⟨?_,YY g _⟩;rw[FQ g,z1h,(m j u).1];simp[u]) x (by omega)
  change Calls prog 86 _ _ _ at t;refine t.mono ?_;rintro e w' ⟨rfl,n,os,rfl⟩;obtain⟨O,M⟩:=V2 (enc:=encStr) (n:=n) (os:=os) (d:=(UF l).toArray) g x;obtain⟨z,L⟩:=Pj (c':=.own 9 1 ((UF l).map .str)) hH y O (.inr ⟨i,_,y,B,M,by simpa[putCells]using D,by simpa[h]using E,J,Cj (fun j o=>by
   have:=BN (enc:=encStr) (d:=(UF l).toArray) (vs:=vs) (by simp[h];omega) (k:=j) (by simpa using o);simpa using this) fun s G=>by
    have:s∈l:=by unfold UF at G;simpa using G
    obtain⟨j,o,rfl⟩:=z0l.1 this;exact(m j o).2⟩)
  exact⟨.p (.tup []),.tuple #[],σ,β,_,rfl,⟨rfl,rfl⟩,.p (.tup [] #[] (fun _=>undef) rfl (by simp) (by simp)),z,L⟩
def He(l:List Str):(Go.Lib.compact l).length<=l.length:=by
 unfold Go.Lib.compact Go.Lib.compactUpTo;rw[x8g];exact x9r (z0i _ _) (by simp)
def MT(h:s∈Go.Lib.compact l):s∈l:=by
 unfold Go.Lib.compact Go.Lib.compactUpTo at h;obtain⟨j,m,rfl⟩:=x8s.1 h;have:=(z0v.1 m).1;have i:j<l.length:=by simpa using this
 simp[i]
def Xh[Inhabited α]{enc:α->Value}{d:Array α}{o:Nat}:(putCells enc o d vs).size=vs.size:=by simp[putCells]
def GT(l:List Str)(J:l.length<=1000000000):
  SpecH prog 148 [.hd 1000 0 l.length] [(1000,.own 9 1 (l.map .str))] (fun r H=>r=.hd 1000 0 (Go.Lib.compact l).length/\H=[(1000,.own 9 1 ((Go.Lib.compact l).map .str))]):=by
 refine⟨call148,fun σ β w K U o hH=>?_⟩;obtain⟨v,rfl⟩:=x2d U;have o:=o 0 _ rfl;have o:RepL σ β (.hd 1000 0 l.length) v:=by simpa using o
 have c:=hH.chunks 1000 _ x8p;have Q:=He l;rcases c with⟨t,f⟩|⟨i,vs,y,C,g,E,F,L,M⟩
 .have A:l=[]:=by simpa using f
  subst A;obtain⟨rfl,_⟩:=Sl o t;have u:=Any.slices_Compact_string_empty V8 none 0 w;change Calls prog 148 _ _ _ at u;refine u.mono ?_;rintro e w' ⟨rfl,rfl⟩;exact⟨.hd 1000 0 0,.slice none 0 0,σ,β,_,rfl,⟨rfl,rfl⟩,.hdn 1000 t,by simpa[Go.Lib.compact,Go.Lib.compactUpTo]using hH,by simpa[Go.Lib.compact,Go.Lib.compactUpTo]using Later.refl _ _ _ _⟩
 .have D:=Mn o y;subst D;have B:=(hH.apart 1000 (by simp) i y i.blk i.has_blk).2;have R:l.length<=vs.size:=by rw[E,z4w];simpa using F
  have x:l.length<=i.cap:=by simpa using F
  have h:=fun j m=>Cy (σ:=σ) (l:=l) M (j:=j) m;have u:=Any.slices_Compact_string V8 i.blk 0 i.cap l w (fun j m=>by
   have z:j<l.length:=by simpa using m
   refine⟨?_,YY g _⟩;rw[FQ g,z1h,(h j z).1];simp[z]) (by omega) x
  change Calls prog 148 _ _ _ at u;refine u.mono ?_;rintro e w' ⟨rfl,q,rfl⟩;obtain⟨I,G⟩:=V2 (enc:=encStr) (n:=q) (os:=#[]) (d:=(Go.Lib.compact l++List.replicate (l.length-(Go.Lib.compact l).length) []).toArray) g B;rw[grow_empty]at I G;obtain⟨a,O⟩:=Pj (c':=.own 9 1 ((Go.Lib.compact l).map .str)) hH y I (.inr ⟨i,_,y,C,G,by rw[Xh];exact E,by simp;omega,L,Cj (fun j m=>by
   have:=BN (enc:=encStr) (d:=(Go.Lib.compact l++List.replicate (l.length-(Go.Lib.compact l).length) []).toArray) (vs:=vs) (by simp;omega) (k:=j) (by simp;omega);rw[this];simp[List.getElem_append_left m]) fun s V=>by
    obtain⟨j,m,rfl⟩:=z0l.1 (MT V);exact(h j m).2⟩)
  refine⟨.hd 1000 0 (Go.Lib.compact l).length,_,σ,β,_,rfl,⟨rfl,rfl⟩,?_,a,O⟩;have:=z5c (σ:=σ) (β:=β) 1000 0 (Go.Lib.compact l).length i 0 y (by omega) (.inl (by simp));simpa using this
def BT(q:(QO p).1=0){f:Pr}(o:f∈p.A){t:S}(r:t∈flL f.body):GW p f (QK p) t=true:=by
 obtain⟨_,_,h⟩:=JL q;have i:=List.findSome?_eq_none_iff.1 h f o;unfold YK at i;cases m:(UY (Tm f)||(Tm f).any fun n=>p.F.any fun s=>n==s)<;>rw[m]at i
 .simp only[x9p,Option.map_eq_none_iff]at i;have:=z3h.1 i t r;simpa using this
 .cases i
def Wy(q:(QO p).1=0){f:Pr}(n:f∈p.A){t:S}(r:t∈flL f.body)(o:t.kind=4):t.C∈QK p/\t.C≠mainS:=by
 have:=BT q n r;unfold GW at this;simp only[x9w,z2s,z0w]at this;rcases this.2 with h|h
 .exact absurd o h
 .simp only[z2v,z4n,ne_eq]at h;refine⟨?_,h.1⟩;obtain⟨s,i,m⟩:=z1b.1 h.2;have:=eq_of_beq m;exact this▸i
def HO(f:Pr):List Str:=((flL f.body).filter fun t=>decide (t.kind=4)).map S.C
def FR(f:Pr):List Str:=Go.Lib.compact (UF (HO f))
def XR:s∈UF l↔s∈l:=by unfold UF;simp
def ZF(l:List Str):(UF l).length=l.length:=by unfold UF;simp
def CT(f:Pr):(FR f).length<=QY f.body:=by
 have:=He (UF (HO f));rw[ZF]at this;unfold FR;refine x9r this ?_;unfold HO;rw[x8g,<-J6];exact z0i _ _
def Vz(r:(QO p).1=0){f:Pr}(q:f∈p.A)(h:s∈FR f):s∈QK p:=by
 have i:=XR.1 (MT h);obtain⟨t,m,rfl⟩:=x8s.1 i;obtain⟨n,o⟩:=z0v.1 m;exact(Wy r q n (by simpa using o)).1
def YP{n:Str}(h:n∈QK p):∃(k:Nat) (o:k<p.A.length),idxF (fun f=>f.name==n) p.A=k/\p.A.find? (fun f=>f.name==n)=some p.A[k]/\p.A[k].name=n:=by
 have q:p.A.any (fun f=>f.name==n)=true:=by
  obtain⟨f,i,m⟩:=x8s.1 h;exact z1b.2 ⟨f,i,by simp[m]⟩
 obtain⟨k,o,i,m,r⟩:=Sc q;exact⟨k,o,i,r,by simpa using m⟩
def TY(p:Pg)(n:Str)(k:Nat)(B:k<p.A.length)(d:idxF (fun f=>f.name==n) p.A=k)(c:cntP p.A<=1000):aP 84 [.ip (sheetOf p).cells,.str n] (eStrs (FR p.A[k])):=by
 refine sC Dt func84 ?_;conv=>whnf
 repeat' ((first|(refine iM fun _=>?_)|refine cP (XI _ _) ?_|refine cP (B3 p (j:=k) (f:=p.A[k]'B) (by simp) c) ?_ (ha:=.cons (Sub.refl _) (.cons (Sub.int (by exact d)) .nil)))<;>conv=>whnf)
 have m:=W3 (k:Nat) 0 (-1) 0 (QC p.A k) p.A[k].body;have x:(itL (k:Nat) 0 (-1) 0 (QC p.A k) p.A[k].body).length<=1000:=by
  have:=(QU p).2.2.2.2 k p.A[k] (by simp);rw[XO];omega
 generalize y:itL (k:Nat) 0 (-1) 0 (QC p.A k) p.A[k].body=its at m x⊢;have g:=WY its;have t:HO p.A[k]=(its.filter fun o=>decide (o.s.kind=4)).map fun o=>o.s.C:=by
  unfold HO;rw[<-m,List.filter_map,z2c];rfl
 refine lJ (fun i:Nat×List Str=>⟨[(5,.hd 0 0 i.2.length),(12,.p (ZE its)),(13,.p (.int .i64 (its.map fun i=>AV.agg i.cells).length)),(14,.j i.1)],[(0,.own 9 1 (i.2.map .str))]⟩) (fun i=>i.1<=its.length/\i.2.length<=i.1/\i.2++((its.drop i.1).filter fun o=>decide (o.s.kind=4)).map (fun o=>o.s.C)=HO p.A[k]) (fun i=>its.length-i.1) (0,[]) (lM [(0,.own 9 1 [])]) ⟨x8m _,x9z _,by rw[t];rfl⟩ ?_;rintro⟨j,h⟩ ⟨z,a,q⟩;simp only at z a q⊢;rcases x8a j its.length with u|u
 .conv=>whnf
  repeat' ((first|(refine gX ?_;intros)|refine pS ?_|(apply bD<;>intro _<;>try omega))<;>conv=>whnf)
  .exact ⟨(j+1,h++[its[j].s.C]),⟨by simp only;omega,by simp;omega,by simp only;rw[<-q,QD u,z2a,if_pos (by simp[*])];simp⟩,by simp only;omega,Le.of_eq (by simp only[x8d,x8i];rfl)⟩
  .exact nX (j+1,h) ⟨by simp only;omega,by simp only;omega,by simp only;rw[<-q,QD u,z2a,if_neg (by simp[*])]⟩
 .have r:h=HO p.A[k]:=by
   rw[x9v u]at q;simpa using q
  conv=>whnf
  repeat' ((first|(apply bD<;>intro _<;>try omega)|(refine cH rH1 0 (VI h (by omega)) ?_)|(refine cH rH1 0 (GT (UF h) (by rw[ZF];omega)) ?_ (ha:=(x9d (z3y (by rw[ZF];rfl)) z1y))))<;>conv=>whnf)
  exact⟨_,.hd rfl (by simp),by unfold FR;rw[<-r];rfl⟩
def XU(out:List Str):List Str->List Str
 |[]=>out
 |n::r=>XU (if(out.any fun s=>n==s)=true then out else out++[n]) r
def Yf{out:List Str}(h:j<l.length):XU out (l.drop j)=XU (if(out.any fun s=>l[j]==s)=true then out else out++[l[j]]) (l.drop (j+1)):=by
 rw[QD h,XU]
theorem VO{p:Pg}:∀(l:List Str){out:List Str},out.Nodup->(∀s∈out,s∈QK p)->(∀s∈l,s∈QK p)->(XU out l).Nodup/\(∀s∈XU out l,s∈QK p)/\∃r,XU out l=out++r
 |[],out,h1,h2,_=>⟨h1,h2,[],by rw[XU];simp⟩
 | n::r,out,h1,h2,h3=>by
   rw[XU];split
   .exact VO r h1 h2 fun s h=>h3 s (x8b _ h)
   .rename_i y;have i:n∉out:=fun x=>y (z1b.2 ⟨n,x,by simp⟩);obtain⟨o,q,z,t⟩:=VO (p:=p) r (out:=out++[n]) (z1m.2 ⟨h1,by simp,fun a ha b m=>by simp at m;subst m;exact fun u=>i (u▸ha)⟩) (fun s h=>by
     rcases x8e.1 h with h|h
     .exact h2 s h
     .simp at h;subst h;exact h3 _ x8p) fun s h=>h3 s (x8b _ h)
    exact⟨o,q,n::z,by rw[t];simp⟩
def YL(p:Pg)(n:Str):List Str:=match p.A.find? (fun f=>f.name==n)with
 |some f=>FR f
 |none=>[]
def VP(p:Pg):Nat->Nat->List Str->List Str
 |0,_,out=>out
 | fuel+1,i,out=>match out[i]?with
   |some n=>VP p fuel (i+1) (XU out (YL p n))
   |none=>out
def Gl(p:Pg)(n:Str):List Str:=UF (VP p (p.A.length+1) 0 [n])
theorem YF{α:Type}[BEq α][LawfulBEq α]:∀{l m:List α},l.Nodup->(∀s∈l,s∈m)->l.length<=m.length
 |[],m,_,_=>x8m _
 | a::r,m,h1,h2=>by
   have ha:=h2 a x8p;have:=YF (l:=r) (m:=m.erase a) (z0h.1 h1).2 fun s h=>(List.mem_erase_of_ne fun i=>(z0h.1 h1).1 (by rw[<-i];exact h)).2 (h2 s (x8b _ h));rw[List.length_erase_of_mem ha]at this;have:=z4a ha;simp only[x9s];omega
def Yc{n:Str}(i:k<p.A.length)(h:p.A.find? (fun f=>f.name==n)=some p.A[k]):YL p n=FR p.A[k]:=by
 unfold YL;rw[h]
def DT(m:(QO p).1=0){n:Str}(h:s∈YL p n):s∈QK p:=by
 unfold YL at h;split at h
 .rename_i f i;exact Vz m (z2o i) h
 .cases h
def Rk(p:Pg)(n:Str)(H:(QO p).1=0)(U:n∈QK p):aP 52 [.ip (sheetOf p).cells,.str n] (eStrs (Gl p n)):=by
 refine sC RP func52 ?_;conv=>whnf
 obtain⟨R,hb,Z⟩:=JL H;obtain⟨hg,hpl,M⟩:=WE R;have Y:(QK p).length=p.A.length:=by simp[QK]
 repeat' ((first|refine x9g rfl ?_|refine aD ?_|refine z4x (fun x hx=>by rcases x8l.1 hx with rfl;rfl) rfl ?_)<;>conv=>whnf)
 refine lI (fun i:Nat×List Str=>⟨[(0,.p (.ip (sheetOf p).cells)),(5,.hd 0 0 i.2.length),(6,.j i.1)],[(0,.own 9 1 (i.2.map .str))]⟩) (fun i=>i.1<=i.2.length/\i.2.Nodup/\(∀s∈i.2,s∈QK p)/\VP p (p.A.length+1-i.1) i.1 i.2=VP p (p.A.length+1) 0 [n]) (fun i=>p.A.length+1-i.1) (0,[n]) ⟨x8m _,by simp,by simpa using U,rfl⟩ ?_;rintro⟨j,out⟩ ⟨I,g,f,t⟩;simp only at I g f t⊢;have hol:=YF g f;rcases x8a j out.length with c|c
 .obtain ⟨k,F,E,D,V⟩:=YP (f _ (x8o c));have C:=CT p.A[k];have L:QY p.A[k].body<=200:=by
   have:=(QU p).2.2.2.2 k p.A[k] (by simp);omega
  conv=>whnf
  repeat' ((first|(refine gX ?_;intros)|refine z1x j rfl c ?_|refine z5m j 0 (.str out[j]) (by omega) (by simp[c]) ?_|refine cP (TY p out[j] k F E (by omega)) ?_ (ha:=.cons (Sub.refl _) (.cons (Sub.refl _) .nil))|(apply bD<;>intro _<;>try omega))<;>conv=>whnf)
  have d:∀s∈FR p.A[k],s∈QK p:=fun s h=>Vz H (x8o F) h;have B:=Yc F D;have r:VP p (p.A.length+1-j) j out=VP p (p.A.length+1-(j+1)) (j+1) (XU out (FR p.A[k])):=by
   rw[show p.A.length+1-j=(p.A.length+1-(j+1))+1 by omega,VP,x8h c];simp only;rw[B]
  rw[r]at t;obtain⟨y,z,rr,a⟩:=VO (FR p.A[k]) g f d;generalize FR p.A[k]=cs at d t y z a C⊢;have G:(cs.map AV.str).length=cs.length:=x8g _;refine lI (fun i:Nat×List Str=>⟨[(0,.p (.ip (sheetOf p).cells)),(5,.hd 0 0 i.2.length),(6,.j j),(22,.p (eStrs cs)),(23,.p (.int .i64 (cs.map AV.str).length)),(24,.j i.1)],[(0,.own 9 1 (i.2.map .str))]⟩) (fun i=>i.1<=cs.length/\i.2.length<=out.length+i.1/\XU i.2 (cs.drop i.1)=XU out cs) (fun i=>cs.length-i.1) (0,out) ⟨x8m _,by simp,rfl⟩ ?_;rintro⟨m,q⟩ ⟨J,K,u⟩;simp only at J K u⊢;rcases x8a m cs.length with o|o
  .conv=>whnf
   repeat' ((first|(refine gX ?_;intros)|(refine QR (QZ q (cs[m]'o)) (.cons (.hd rfl (by simp)) (.cons (.p (Sub.refl _)) .nil)) (by rintro _ rfl;rfl) ?_;rintro _ rfl)|refine pS ?_|((first|apply bD|apply bN)<;>intro _<;>try omega))<;>conv=>whnf)
   .exact nX (m+1,q) ⟨by simp only;omega,by simp only;omega,by simp only;rw[<-u,Yf o,if_pos (by assumption)]⟩
   .exact ⟨(m+1,q++[cs[m]]),⟨by simp only;omega,by simp;omega,by simp only;rw[<-u,Yf o,if_neg (by simp[*])]⟩,by simp only;omega,Le.of_eq (by simp only[x8d,x8i];rfl)⟩
  .rw [x9v o,XU]at u;subst u;have O:out.length<=(XU out cs).length:=by rw[a];simp
   conv=>whnf
   repeat' ((first|refine wI ?_|(apply bD<;>intro _<;>try omega))<;>conv=>whnf)
   exact nX (j+1,XU out cs) ⟨by simp only;omega,y,z,t⟩
 .have Q:j=out.length:=by omega
  have r:VP p (p.A.length+1-j) j out=out:=by
   rw[show p.A.length+1-j=(p.A.length-j)+1 by omega,VP,z0d (by omega)]
  rw[r]at t;conv=>whnf
  repeat' ((first|(refine iM fun _=>?_)|(apply bD<;>intro _<;>try omega)|(refine cH rH1 0 (VI out (by omega)) ?_))<;>conv=>whnf)
  exact⟨_,.hd rfl (by simp[ZF]),by unfold Gl;rw[<-t];rfl⟩
mutual
theorem q6j:∀(x:X)(out:List Str),(Mu x out).length<=out.length+wX x
 | .mk op n name kids,out=>by
   rw[Mu,wX];have:=Iy kids (if op=2/\(out.any fun s=>name==s)=false then out++[name]else out);split at this
   ·rename_i h;rw[if_pos h];simp at this;omega
   ·rename_i h;rw[if_neg h];omega
theorem Iy:∀(l:List X)(out:List Str),(BQ l out).length<=out.length+wXs l
 |[],out=>by rw[BQ];omega
 | x::r,out=>by
   have h1:=q6j x out;have h2:=Iy r (Mu x out);rw[BQ,wXs];omega
end
def Ui(x:X):(XL x).length<=wX x:=by
 unfold XL;have:=q6j x [];cases IB x<;>simp at this⊢;exact this
theorem K9:∀l:List Arg,(l.flatMap HK).length<=Wl l
 |[]=>by simp
 | a::r=>by
   have h:=K9 r;have i:=Ui a.x;simp only[z0e,x8d,Wl];have m:(HK a).length<=1+(XL a.x).length:=by
    unfold HK;cases a.ref<;>simp;omega
   omega
def q3b(t:S):(VF t).length<=wS t:=by
 have h:=K9 t.args;have i:=Ui t.x;rw[AC];have m:(NN t).length<=1+(XL t.x).length:=by
  unfold NN;cases(decide (t.kind≠10) && !(t.name==[]):Bool)<;>simp;omega
 unfold VF;rw[x8d];omega
def MP{b:Bool}(h:b=true):Sub (.bool b) .tt:=fun _ _ i=>by subst h;cases i;exact .tt
def Gw(p:Pg)(m:Fit p)(q:(QO p).1=0)(n:Str)(o:n∈QK p):aP 51 [.agg p.cells,.str n] .tt:=by
 refine sC Ds func51 ?_;conv=>whnf
 repeat' ((first|refine cP (KP p m) ?_|refine cP (WI p.A 83 (.ip [.str n]) (fun f=>f.name==n) (Pl n)) ?_|(apply bD<;>intro _<;>try omega))<;>conv=>whnf)
 have:p.A.any (fun f=>f.name==n)=true:=by
  obtain⟨f,h,i⟩:=x8s.1 o;exact z1b.2 ⟨f,h,by simp[i]⟩
 exact⟨_,.p (MP this),rfl⟩
def Ib(p:Pg)(t:S):List Str:=(VF t).filter fun v=>p.F.any fun s=>v==s
def T9(p:Pg)(n:Str):List Str:=match p.A.find? (fun f=>f.name==n)with
 |some f=>(flL f.body).flatMap (Ib p)
 |none=>[]
def MI(p:Pg)(n:Str):List Str:=(Gl p n).flatMap (T9 p)
def ME(p:Pg)(n:Str):List Str:=Go.Lib.compact (UF (MI p n))
theorem Ww{p:Pg}(m:(QO p).1=0):∀(fuel i:Nat)(out:List Str),out.Nodup->(∀s∈out,s∈QK p)->(VP p fuel i out).Nodup/\∀s∈VP p fuel i out,s∈QK p
 |0,i,out,h1,h2=>by rw[VP];exact⟨h1,h2⟩
 | fuel+1,i,out,h1,h2=>by
   rw[VP];split
   .obtain ⟨n,o,_⟩:=VO (YL p _) h1 h2 fun s h=>DT m h;exact Ww m fuel (i+1) _ n o
   .exact ⟨h1,h2⟩
def q1u(q:(QO p).1=0){n:Str}(o:n∈QK p):(Gl p n).length<=p.A.length/\∀s∈Gl p n,s∈QK p:=by
 obtain⟨m,i⟩:=Ww q (p.A.length+1) 0 [n] (by simp) (by simpa using o);unfold Gl;rw[ZF];refine⟨?_,fun s h=>i s (XR.1 h)⟩;have:=YF m i;simpa[QK]using this
def YR{β:Type}{f:α->List β}{l:List α}(h:j<l.length):(l.drop j).flatMap f=f l[j]++(l.drop (j+1)).flatMap f:=by
 rw[QD h,z0e]
def Pm(p:Pg)(hf:Fit p)(E:(QO p).1=0)(n:Str)(U:n∈QK p):aP 102 [.agg p.cells,.str n] (eStrs (ME p n)):=by
 refine sC Yx func102 ?_;conv=>whnf
 obtain⟨D,hb,hns⟩:=JL E;obtain⟨hg,hpl,hcn⟩:=WE D;repeat' ((first|(refine iM fun _=>?_)|refine cP (Gw p hf E n U) ?_|refine cP (Rk p n E U) ?_|refine cP (JP p (by omega) (by omega)) ?_ (ha:=.cons (Sub.refl _) .nil))<;>conv=>whnf)
 obtain⟨H,d⟩:=q1u E U;have K:ME p n=Go.Lib.compact (UF (MI p n)):=rfl;have g:MI p n=(Gl p n).flatMap (T9 p):=rfl;rw[K];generalize Gl p n=ns at H d g⊢;have hnl:(ns.map AV.str).length=ns.length:=x8g _;refine lJ (fun i:Nat×List Str=>⟨[(2,.p (.ip p.cells)),(5,.p (.ip (sheetOf p).cells)),(6,.hd 0 0 i.2.length),(21,.p (eStrs ns)),(22,.p (.int .i64 (ns.map AV.str).length)),(23,.j i.1)],[(0,.own 9 1 (i.2.map .str))]⟩) (fun i=>i.1<=ns.length/\i.2.length<=4200000*i.1/\i.2++(ns.drop i.1).flatMap (T9 p)=MI p n) (fun i=>ns.length-i.1) (0,[]) (lM [(0,.own 9 1 [])]) ⟨x8m _,by simp,by rw[g];rfl⟩ ?_;rintro⟨j,o⟩ ⟨h2,h3,z⟩;simp only at h2 h3 z⊢;rcases x8a j ns.length with C|C;rotate_left 1
 .have c:o=MI p n:=by
   rw[x9v C]at z;simpa using z
  rw[<-c];conv=>whnf
  repeat' ((first|(apply bD<;>intro _<;>try omega)|(refine cH rH1 0 (VI o (by omega)) ?_)|(refine cH rH1 0 (GT (UF o) (by rw[ZF];omega)) ?_ (ha:=(x9d (z3y (by rw[ZF];rfl)) z1y))))<;>conv=>whnf)
  exact⟨_,.hd rfl (by simp),rfl⟩
 obtain⟨k,hk,Q,I,hnk⟩:=YP (d _ (x8o C));have L:T9 p ns[j]=(flL p.A[k].body).flatMap (Ib p):=by unfold T9;rw[I]
 rw[YR C,L]at z;have J:=hf.pr (x8o hk);have B:p.A[k]?=some p.A[k]:=by simp
 conv=>whnf
 repeat' ((first|(refine gX ?_;intros)|refine cP (XI _ _) ?_|refine cP (B3 p (j:=k) (f:=p.A[k]'hk) B (by omega)) ?_ (ha:=.cons (Sub.refl _) (.cons (Sub.int (by exact Q)) .nil))|(apply bD<;>intro _<;>try omega))<;>conv=>whnf)
 have y:=W3 (k:Nat) 0 (-1) 0 (QC p.A k) p.A[k].body;have u:∀m (D:m<(itL (k:Nat) 0 (-1) 0 (QC p.A k) p.A[k].body).length),wS (itL (k:Nat) 0 (-1) 0 (QC p.A k) p.A[k].body)[m].s<=21000:=fun m D=>by
  have R:(itL (k:Nat) 0 (-1) 0 (QC p.A k) p.A[k].body)[m].s∈flL p.A[k].body:=by
   rw[<-y];exact x8s.2 ⟨_,x8o D,rfl⟩
  have:=T2 _ _ R;unfold wPr at J;omega
 have O:(itL (k:Nat) 0 (-1) 0 (QC p.A k) p.A[k].body).length<=200:=by
  have:=(QU p).2.2.2.2 k p.A[k] B;rw[XO];omega
 rw[<-y]at z;generalize hits:itL (k:Nat) 0 (-1) 0 (QC p.A k) p.A[k].body=its at u O z⊢;have hil:=WY its;refine lI (fun i:Nat×List Str=>⟨[(2,.p (.ip p.cells)),(5,.p (.ip (sheetOf p).cells)),(6,.hd 0 0 i.2.length),(21,.p (eStrs ns)),(22,.p (.int .i64 (ns.map AV.str).length)),(23,.j j),(31,.p (ZE its)),(32,.p (.int .i64 (its.map fun i=>AV.agg i.cells).length)),(33,.j i.1)],[(0,.own 9 1 (i.2.map .str))]⟩) (fun i=>i.1<=its.length/\i.2.length<=o.length+21000*i.1/\i.2++(((its.drop i.1).map Item.s).flatMap (Ib p)++(ns.drop (j+1)).flatMap (T9 p))=MI p n) (fun i=>its.length-i.1) (0,o) ⟨x8m _,by simp,z⟩ ?_;rintro⟨m,r⟩ ⟨h6,h7,a⟩;simp only at h6 h7 a⊢;rcases x8a m its.length with x|x;rotate_left 1
 .rw [x9v x]at a;conv=>whnf
  repeat' ((first|refine wI ?_|(apply bD<;>intro _<;>try omega))<;>conv=>whnf)
  exact nX (j+1,r) ⟨by simp only;omega,by simp only;omega,by simpa using a⟩
 have hw:=u m x;have V:its[m].s.args.length<=21000:=by
  have:=AC its[m].s;have:=PX its[m].s.args;omega
 have Y:=q3b its[m].s;rw[x9t x,x9f,z0e,x9u]at a;have M:Ib p its[m].s=(VF its[m].s).filter fun v=>p.F.any fun s=>v==s:=rfl;conv=>whnf
 repeat' ((first|(refine gX ?_;intros)|refine cP (Fx _ V) ?_|(apply bD<;>intro _<;>try omega))<;>conv=>whnf)
 rw[M]at a;generalize VF its[m].s=vs at Y a⊢;have hvl:(vs.map AV.str).length=vs.length:=x8g _;refine lI (fun i:Nat×List Str=>⟨[(2,.p (.ip p.cells)),(5,.p (.ip (sheetOf p).cells)),(6,.hd 0 0 i.2.length),(21,.p (eStrs ns)),(22,.p (.int .i64 (ns.map AV.str).length)),(23,.j j),(31,.p (ZE its)),(32,.p (.int .i64 (its.map fun i=>AV.agg i.cells).length)),(33,.j m),(39,.p (eStrs vs)),(40,.p (.int .i64 (vs.map AV.str).length)),(41,.j i.1)],[(0,.own 9 1 (i.2.map .str))]⟩) (fun i=>i.1<=vs.length/\i.2.length<=r.length+i.1/\i.2++((vs.drop i.1).filter (fun v=>p.F.any fun s=>v==s)++(((its.drop (m+1)).map Item.s).flatMap (Ib p)++(ns.drop (j+1)).flatMap (T9 p)))=MI p n) (fun i=>vs.length-i.1) (0,r) ⟨x8m _,by simp,a⟩ ?_;rintro⟨q,t⟩ ⟨h9,G,h⟩;simp only at h9 G h⊢;rcases x8a q vs.length with Z|Z
 .rw [x9t Z,z2a]at h;conv=>whnf
  repeat' ((first|refine cP (QZ _ _) ?_|(refine gX ?_;intros)|refine pS ?_|((first|apply bD|apply bB)<;>intro _<;>try omega))<;>conv=>whnf)
  .exact ⟨(q+1,t++[vs[q]]),⟨by simp only;omega,by simp;omega,by rw[if_pos (by assumption)]at h;simpa using h⟩,by simp only;omega,Le.of_eq (by simp only[x8d,x8i];rfl)⟩
  .exact nX (q+1,t) ⟨by simp only;omega,by simp only;omega,by rw[if_neg (by simp[*])]at h;exact h⟩
 .rw [x9v Z]at h;conv=>whnf
  repeat' ((first|refine wI ?_|(apply bD<;>intro _<;>try omega))<;>conv=>whnf)
  exact nX (m+1,t) ⟨by simp only;omega,by simp only;omega,by simpa using h⟩
section
variable {P:Program}{T:Tab}{N:Nat}
def JJ(s:List UInt8):Value:=.string ⟨s.toArray⟩
def q0r(l:List (List UInt8×AV)):XC:=.map (l.map fun x=>(JJ x.1,x.2))
def NR{α:Type}(l:List (List UInt8×α))(k:List UInt8)(v:α):List (List UInt8×α):=
 match l with
 |[]=>[(k,v)]
 |x::r=>if k=x.1 then(x.1,v)::r else x::NR r k v
def Re{α:Type}(l:List (List UInt8×α))(k:List UInt8):Option α:=(l.find? fun x=>decide (k=x.1)).map (·.2)
def MN(h:Qf es clock){e:MapEntry}(n:e.born=clock):Qf (es.push e) (clock+1):=by
 refine⟨?_,fun x i=>?_⟩
 .rw [Array.toList_push,x8i,z1m];refine⟨h.1,by simp,fun a ha b m=>?_⟩;obtain⟨x,i,rfl⟩:=x8s.1 ha;have:=h.2 x i;simp only[x9f,z4v,x8l]at m;omega
 .rw [Array.toList_push]at i;rcases x8e.1 i with i|i
  .have:=h.2 x i;omega
  .rw [x8l.1 i,n];omega
theorem Fp{α β:Type}(g:α->β)(f:α->α)(h:∀x,g (f x)=g x):∀(l:List α)(j:Nat),(l.modify j f).map g=l.map g
 |[],j=>by simp
 |x::r,0=>by simp[h]
 |x::r,j+1=>by simp[Fp g f h r j]
def HE(h:Qf es clock)(j:Nat){f:MapEntry->MapEntry}(o:∀e,(f e).born=e.born):Qf (es.modify j f) clock:=by
 have e:(es.modify j f).toList.map (·.born)=es.toList.map (·.born):=by
  rw[Array.toList_modify];exact Fp _ f o _ j
 refine⟨by rw[e];exact h.1,fun x q=>?_⟩;have i:x.born∈(es.modify j f).toList.map (·.born):=x8s.2 ⟨x,q,rfl⟩;rw[e]at i;obtain⟨y,m,n⟩:=x8s.1 i;rw[<-n];exact h.2 y m
theorem OpK.makeMap{s:St}{o:Oper}{K:St->Prop}{t:TypeId}(q:o.op=.makeMap t none)(h:FT 60 0 s fun k=>setD N s.sl o.dst (.ext k .map) fun sl=>K ⟨sl,(k,.ext (q0r []))::s.H⟩):OpK P N s o K:=by
 refine⟨fun σ β a w f Q=>?_⟩;obtain⟨k,z,h⟩:=YU h;have i:(Chunk.ext (q0r [])).holds σ (β.set k (some ⟨w.heap.size,0,0,[],x8m _⟩)) (w.alloc (.map #[] 0)) k:=
  ⟨⟨w.heap.size,0,0,[],x8m _⟩,#[],0,by simp[Lab.set],heap_alloc_new w _,⟨.nil,fun x g=>by cases g⟩,rfl,by simp⟩
 obtain⟨r,c⟩:=f.new z rfl rfl i;obtain⟨sl,y,m⟩:=r.setD (v:=.ext k .map) (u:=.map (some w.heap.size)) (.ext k .map ⟨w.heap.size,0,0,[],x8m _⟩ _ (by simp[Lab.set]) rfl) h;exact XS (w':=w.alloc (.map #[] 0)) (by simp[execOp,q,Instr.makeMap]) ⟨σ,_,_,y,m,c⟩
def Qb(a b:List UInt8):((⟨a.toArray⟩:ByteArray)==⟨b.toArray⟩)=decide (a=b):=by
 show(a.toArray==b.toArray)=decide (a=b);by_cases h:a=b
 .subst h;simp
 .simp [h]
theorem DC{α:Type}(k:List UInt8):∀(es:List MapEntry)(l:List (List UInt8×α))(i:Nat),es.map (·.key)=l.map (fun x=>JJ x.1)->
  Instr.findNow .string (JJ k) es i=some (match l.findIdx? fun x=>decide (k=x.1)with
   |some j=>some (i+j,(es[j]?.map (·.val)).getD undef)
   |none=>none)
 |[],[],_,_=>rfl
 |[],_::_,_,h=>by cases h
 |_::_,[],_,h=>by cases h
 | e::es,x::l,i,h=>by
   simp only[x9f,List.cons.injEq]at h;have n:Instr.sameNow .string (JJ k) e.key=some (decide (k=x.1)):=by
    rw[h.1];show some ((⟨k.toArray⟩:ByteArray)==⟨x.1.toArray⟩)=_;rw[Qb]
   rw[Instr.findNow,n,z3l];by_cases m:k=x.1
   .simp [m]
   .simp only[m,decide_false];rw[DC k es l (i+1) h.2];cases l.findIdx? fun x=>decide (k=x.1)with
    |none=>rfl
    |some j=>simp;omega
def Vu{l:List (List UInt8×AV)}(n:es.size=(l.map fun x=>(JJ x.1,x.2)).length)(o:∀(m:Nat)(x:Value×AV),(l.map fun x=>(JJ x.1,x.2))[m]?=some x->∃e:MapEntry,es[m]?=some e/\e.key=x.1/\Rep σ x.2 e.val):
  es.toList.map (·.key)=l.map (fun x=>JJ x.1):=by
 apply z4f;intro m;rw[x8n,x8n];cases i:l[m]?with
 | none=>
   have:es.toList[m]?=none:=by
    rw[z2i]at i⊢;simp at n⊢;omega
   rw[this];rfl
 | some x=>
   obtain⟨e,q,r,_⟩:=o m (JJ x.1,x.2) (by simp[i]);have h:es.toList[m]?=some e:=by simpa using q
   rw[h];simp[r]
def JS{P:Program}{t:TypeId}(h:P.underlying t=some .string)(b:Bool)(k:List UInt8)(w:World):(Instr.checkKey b 10000 t (JJ k)).run P w=.ok () w:=by
 have e:Instr.checkKey b 10000 t (JJ k)=Instr.checkKey b (9999+1) t (JJ k):=rfl;rw[e,Instr.checkKey,Sem.run_bind,run_underlying h,Result.andThen_ok];rfl
def Cv{l:List UInt8}(h:RepL σ β (.p (.str l)) v):v=JJ l:=h.strV.1
def ZM{P:Program}{r:Nat}(h:w.heap[r]?=some (.map es clock)):(getObj r).run P w=.ok (.map es clock) w:=by simp[getObj,Sem.run,h]
def JC{P:Program}{r:Nat}(o:Obj)(h:w.heap[r]?=some (.map es clock)):(setObj r o).run P w=.ok () {w with heap:=w.heap.setIfInBounds r o}:=by simp[setObj,Sem.run,h]
theorem OpK.lookup(hT:TabOK P T){s:St}{o:Oper}{K:St->Prop}{t:TypeId}{x ix:Operand}(Z:o.op=.lookup t x ix false){k:Nat}(hx:QP s.sl x=.ext k .map){l:List (List UInt8×AV)}(hg:getH s.H k=some (.ext (q0r l))){ks:List UInt8}(hk:QP s.sl ix=.p (.str ks)){i ik:TyI}{kt et:TypeId}(ht:T.get t=some i)(hd:i.desc=.map kt et)(htk:T.get kt=some ik)(L:ik.desc=.string){v:AV}(A:Re l ks=some v)(h:setD N s.sl o.dst (.p v) fun sl=>K ⟨sl,s.H⟩):OpK P N s o K:=by
 refine⟨fun σ β a w B Q=>?_⟩;have z:=QX B.E x;have c:=QX B.E ix;rw[hx]at z;rw[hk]at c;have V:=Cv c;generalize hxe:a.eval x=xv at z;cases z with
 | ext _ _ bi _ I J=>
   obtain rfl:xv=.map (some bi.blk):=J;obtain⟨bi',es,clock,q,hh,hbo,h1,h2⟩:=B.heap.chunks k _ (QH hg);rw[I]at q;cases q;have r:=Vu h1 h2;have hu:=hT.of ht;have u:=hT.of htk;rw[hd]at hu;rw[L]at u;obtain⟨j,hj,U⟩ : ∃j,(l.findIdx? fun x=>decide (ks=x.1))=some j/\∃x,l[j]?=some x/\x.2=v:=by
    unfold Re at A;cases M:l.find? fun x=>decide (ks=x.1)with
    |none=>rw[M]at A;cases A
    | some x=>
      rw[M]at A;cases A;obtain⟨C,j,f,F,G⟩:=List.find?_eq_some_iff_getElem.1 M;refine⟨j,?_,x,by rw[x8h f,F],rfl⟩;rw[z3n];exact⟨f,by rw[F];exact C,fun i hi=>by simpa using G i hi⟩
   obtain⟨y,R,rfl⟩:=U;obtain⟨e,C,F,G⟩:=h2 j (JJ y.1,y.2) (by simp[R]);have m:=DC ks es.toList l 0 r;rw[hj]at m;have D:es.toList[j]?=some e:=by simpa using C
   simp only[D,z1a,x9i]at m;have g:(execOp a.eval o).run P w=.ok (.value e.val) w:=by
    have O:(Instr.findKey kt (JJ ks) es.toList).run P w=.ok (some (0+j,e.val)) w:=by
     unfold Instr.findKey;rw[Sem.run_bind,run_underlying u,Result.andThen_ok,m];rfl
    have Y:(Instr.lookup t (.map (some bi.blk)) (JJ ks) false).run P w=.ok e.val w:=by
     unfold Instr.lookup;rw[Sem.run_bind,run_underlying hu,Result.andThen_ok];simp only[Sem.run_bind,ZM hh,Result.andThen_ok,Sem.run_pure,JS u,O];rfl
    simp only[execOp,Z,hxe,V,Sem.run_bind,Y,Result.andThen_ok];rfl
   obtain⟨sl,hK,hr'⟩:=B.setD (.p G) h;exact XS g ⟨σ,β,_,hK,hr',Later.refl _ _ _ _⟩
def Gk{l:List (List UInt8×α)}{k:List UInt8}{v:α}(h:(l.findIdx? fun x=>decide (k=x.1))=none):NR l k v=l++[(k,v)]:=by
 induction l with
 |nil=>rfl
 | cons x r m=>
   rw[z3l]at h;by_cases i:k=x.1
   .simp [i]at h
   .simp [i]at h;rw[NR,if_neg i,m (by simpa using h)];rfl
def Rn{l:List (List UInt8×α)}{k:List UInt8}{v:α}(h:(l.findIdx? fun x=>decide (k=x.1))=some j):∃x,l[j]?=some x/\NR l k v=l.set j (x.1,v):=by
 induction l generalizing j with
 |nil=>cases h
 | cons x r q=>
   rw[z3l]at h;by_cases i:k=x.1
   .simp [i]at h;subst h;exact⟨x,rfl,by rw[NR,if_pos i];rfl⟩
   .simp [i]at h;obtain⟨t,m,rfl⟩:=h;obtain⟨y,n,o⟩:=q m;exact⟨y,by simpa using n,by rw[NR,if_neg i,o];rfl⟩
theorem OpK.mapUpdate(hT:TabOK P T){s:St}{o:Oper}{K:St->Prop}{t:TypeId}{x ix vx:Operand}(hop:o.op=.mapUpdate t x ix vx)(D:o.dst=none){k:Nat}(hx:QP s.sl x=.ext k .map){l:List (List UInt8×AV)}(hg:getH s.H k=some (.ext (q0r l))){ks:List UInt8}(hk:QP s.sl ix=.p (.str ks)){v:AV}(hvx:QP s.sl vx=.p v){i ik:TyI}{kt et:TypeId}(ht:T.get t=some i)(hd:i.desc=.map kt et)(htk:T.get kt=some ik)(hdk:ik.desc=.string)(h:Uu s.H k (.ext (q0r (NR l ks v))) fun H=>K ⟨s.sl,H⟩):OpK P N s o K:=by
 refine⟨fun σ β a w g Q=>?_⟩;have hx':=QX g.E x;have hk':=QX g.E ix;have hv':=QX g.E vx;rw[hx]at hx';rw[hk]at hk';rw[hvx]at hv';have hkv:=Cv hk';generalize hxe:a.eval x=xv at hx';generalize hve:a.eval vx=vv at hv';cases hv' with
 |p hvr=>
 cases hx' with
 | ext _ _ A _ C hd'=>
   obtain rfl:xv=.map (some A.blk):=hd';obtain⟨bi',es,clock,L,hh,hbo,M,h2⟩:=g.heap.chunks k _ (QH hg);rw[C]at L;cases L;have hkeys:=Vu M h2;have hu:=hT.of ht;have G:=hT.of htk;rw[hd]at hu;rw[hdk]at G;have u:=DC ks es.toList l 0 hkeys;have F:=QN hg;have hlt:=(g.heap.apart k F A C A.blk A.has_blk).2;obtain⟨es',q,hrun,hbo',hsz,hent⟩ : ∃es' q,(Instr.mapUpdate t (.map (some A.blk)) (JJ ks) vv).run P w=.ok () {w with heap:=w.heap.setIfInBounds A.blk (.map es' q)}/\Qf es' q/\es'.size=(NR l ks v).length/\
     ∀(m:Nat)(x:Value×AV),((NR l ks v).map fun x=>(JJ x.1,x.2))[m]?=some x->∃e:MapEntry,es'[m]?=some e/\e.key=x.1/\Rep σ x.2 e.val:=by
    cases f:l.findIdx? fun x=>decide (ks=x.1)with
    | none=>
      rw[f]at u;refine⟨es.push {key:=JJ ks,val:=vv,born:=clock},clock+1,?_,MN hbo rfl,?_,fun m y J=>?_⟩
      .have U:(Instr.findKey kt (JJ ks) es.toList).run P w=.ok none w:=by
        unfold Instr.findKey;rw[Sem.run_bind,run_underlying G,Result.andThen_ok,u];rfl
       unfold Instr.mapUpdate;rw[Sem.run_bind,run_underlying hu,Result.andThen_ok];simp only[Sem.run_bind,ZM hh,Result.andThen_ok,Sem.run_pure,JS G,U,JC _ hh]
      .rw [Gk f];simpa using M
      .rw [Gk f]at J;simp only[x8g]at M;rw[x8i,z2d]at J;split at J
       .rename_i I;obtain⟨e,B,h4⟩:=h2 m y J;simp only[x8g]at I;exact⟨e,by rw[z3b,if_neg (by omega)];exact B,h4⟩
       .rename_i I;simp only[x8g]at I J;have hm0:m-l.length=0:=by
         have:=(x8t.1 J).1;simp at this;omega
        rw[hm0]at J;simp at J;subst J;exact⟨{key:=JJ ks,val:=vv,born:=clock},by rw[z3b,if_pos (by omega)],rfl,hvr⟩
    | some j=>
      rw[f]at u;obtain⟨y,hy1,hy2⟩:=Rn (v:=v) f;obtain⟨e,B,h4,h5⟩:=h2 j (JJ y.1,y.2) (by simp[hy1]);have hky:ks=y.1:=by
       obtain⟨hlt,O,_⟩:=z3n.1 f;rw[x8h hlt]at hy1;cases hy1;simpa using O
      have h3':es.toList[j]?=some e:=by simpa using B
      have hjlt:j<es.size:=(x9k.1 B).1;simp only[h3',z1a,x9i,z1h]at u;have hek:e.key=JJ ks:=by rw[h4,hky]
      refine⟨es.modify j fun e=>{e with key:=JJ ks,val:=vv},clock,?_,HE hbo j fun _=>rfl,?_,fun m z hz=>?_⟩
      .have U:(Instr.findKey kt (JJ ks) es.toList).run P w=.ok (some (j,e.val)) w:=by
        unfold Instr.findKey;rw[Sem.run_bind,run_underlying G,Result.andThen_ok,u];rfl
       have hkt:(Instr.keyThatStays (((es[j]?).map (·.key)).getD (JJ ks)) (JJ ks)).run P w=.ok (JJ ks) w:=by
        rw[B];simp only[z1a,x9i,hek];unfold Instr.keyThatStays;have:Instr.sameBits 10000 (JJ ks) (JJ ks)=true:=by
         unfold JJ;show((⟨ks.toArray⟩:ByteArray)==⟨ks.toArray⟩)=true;rw[Qb];simp
        rw[if_pos this];rfl
       unfold Instr.mapUpdate;rw[Sem.run_bind,run_underlying hu,Result.andThen_ok];simp only[Sem.run_bind,ZM hh,Result.andThen_ok,Sem.run_pure,JS G,U,hkt,JC _ hh]
      .rw [hy2];simpa using M
      .rw [hy2,z0q]at hz;by_cases I:m=j
       .subst I;rw[x9a (by simp at M⊢;omega)]at hz;cases hz;exact⟨{e with key:=JJ ks,val:=vv},by simp[z2j,B],by rw[hky],hvr⟩
       .rw [z0z (z2x I)]at hz;obtain⟨e',O,h7⟩:=h2 m z hz;exact⟨e',by rw[z2j,if_neg (z2x I)];exact O,h7⟩
   have hrun':(execOp a.eval o).run P w=.ok .skip {w with heap:=w.heap.setIfInBounds A.blk (.map es' q)}:=by
    simp only[execOp,hop,hxe,hkv,hve,Sem.run_bind,hrun,Result.andThen_ok];rfl
   obtain⟨H',hK,B,h4,h5⟩:=UU g.heap.nodup h;have hot:∀b,b≠A.blk->({w with heap:=w.heap.setIfInBounds A.blk (.map es' q)}:World).heap[b]?=w.heap[b]?:=fun b R=>z2u (z2x R);have V:HRel σ β H' {w with heap:=w.heap.setIfInBounds A.blk (.map es' q)}:=by
    refine⟨fun b c R=>?_,fun j c f=>?_,by rw[B];exact g.heap.nodup,fun j f i' Y b R=>?_,fun j f j' hj'=>g.heap.inj j (B▸f) j' (B▸hj')⟩
    .obtain ⟨e,fr,O⟩:=g.heap.mem b c R;exact⟨e,fr,(hot b fun he=>by rw[he,hh]at O;cases O).trans O⟩
    .by_cases Z:j=k
     .subst Z;rw[h5 c f];exact⟨A,es',q,C,by simp[hlt],hbo',by simpa using hsz,hent⟩
     .have I:=h4 j c f Z;exact(g.heap.chunks j c I).mono (Mem.le_refl σ) fun i' Y b R=>hot b fun he=>Z (g.heap.inj j (x8s.2 ⟨_,I,rfl⟩) k F i' A Y C b R (.inl he.symm))
    .have:=g.heap.apart j (B▸f) i' Y b R;exact⟨this.1,by simpa using this.2⟩
   refine NQ hrun' ⟨σ,β,⟨s.sl,H'⟩,hK,⟨?_,?_,?_,V⟩,Mem.le_refl σ,⟨rfl,rfl,rfl,x9z _,by simp,fun b _ hn=>hot b fun he=>hn ⟨k,F,A,C,.inl he.symm⟩⟩,fun b h0 M=>absurd h0 M,fun b ⟨j,f,r⟩=>.inl ⟨j,B▸f,r⟩,fun _ _ _=>rfl⟩
   .rw [D];exact g.size
   .rw [D];exact g.defers
   .rw [D];exact g.E
end
def VJ(i:Str)(h:List Str):List Arg->List Str->Bool
 |[],_=>true
 |a::r,seen=>bif a.ref then bif (seen.any fun s=>a.name==s)||((a.name==i)||h.any fun s=>a.name==s)then false else VJ i h r (seen++[a.name])else VJ i h r seen
def Nt(t:S)(h:List Str)(ha:t.args.length<=21000):aP 103 [.agg t.cells,eStrs h] (.bool (VJ t.name h t.args [])):=by
 refine sC Ga func103 ?_;conv=>whnf
 repeat' ((refine iM fun _=>?_)<;>conv=>whnf)
 have u:(t.args.map fun a=>AV.agg a.cells).length=t.args.length:=x8g _;refine lJ (fun i:Nat×List Str=>⟨[(1,.p (eStrs h)),(2,.p (.ip t.cells)),(5,.hd 0 0 i.2.length),(9,.p (.sl (t.args.map fun a=>.agg a.cells))),(10,.p (.int .i64 (t.args.map fun a=>AV.agg a.cells).length)),(11,.j i.1)],[(0,.own 9 1 (i.2.map .str))]⟩) (fun i=>i.1<=t.args.length/\i.2.length<=i.1/\VJ t.name h (t.args.drop i.1) i.2=VJ t.name h t.args []) (fun i=>t.args.length-i.1) (0,[]) (lM [(0,.own 9 1 [])]) ⟨x8m _,x9z _,rfl⟩ ?_;rintro⟨j,m⟩ ⟨q,r,n⟩;simp only at q r n⊢;rcases x8a j t.args.length with o|o
 .rw [x9t o,VJ]at n;conv=>whnf
  repeat' ((first|refine cP (QZ _ _) ?_|(refine gX ?_;intros)|(refine QR (QZ m (t.args[j]'o).name) (.cons (.hd rfl (by simp)) (.cons (.p (Sub.refl _)) .nil)) (by rintro _ rfl;rfl) ?_;rintro _ rfl)|refine pS ?_|((first|apply bD|apply bN|apply bB)<;>intro _<;>try omega))<;>conv=>whnf)
  all_goals first
   |exact RetK.ff (by rw[<-n];simp[*])
   |exact⟨(j+1,m++[t.args[j].name]),⟨by simp only;omega,by simp;omega,by simp only;rw[<-n];simp[*]⟩,by simp only;omega,Le.of_eq (by simp only[x8d,x8i];rfl)⟩
   |exact nX (j+1,m) ⟨by simp only;omega,by simp only;omega,by simp only;rw[<-n];simp[*]⟩
 .rw [x9v o,VJ]at n;conv=>whnf
  repeat' (apply bD<;>intro _<;>first|omega|conv=>whnf)
  exact RetK.tt n.symm
def Qj(p:Pg):Int×Int:=
 if(YM p).1≠0 then(1,0)else match(UD p).find? fun t=>decide (t.kind=4) && !VJ t.name (ME p t.C) t.args []with
  |some t=>(8,t.id)
  |none=>(0,0)
def q1k(h:(YM p).1=0):(QO p).1=0/\(UD p).find? (fun t=>decide (t.kind=4) && !DA p t)=none:=by
 unfold YM at h;split at h
 .cases h
 .rename_i i;refine⟨by omega,?_⟩;split at h
  .cases h
  .assumption
def q5n{l:List (Str×AV)}{k:Str}{v:AV}{x:Str×AV}(h:x∈NR l k v):x∈l\/x=(k,v):=by
 induction l with
 |nil=>rw[NR]at h;exact .inr (by simpa using h)
 | cons y r m=>
   rw[NR]at h;split at h
   .rename_i i;rcases x8r.1 h with h|h
    .exact .inr (by rw[h,i])
    .exact .inl (x8b _ h)
   .rcases x8r.1 h with h|h
    .exact .inl (by rw[h];exact x8p)
    .exact (m h).imp (x8b _) id
def q5p{l:List (Str×AV)}{k:Str}{v:AV}(h:s=k\/∃x∈l,x.1=s):∃x∈NR l k v,x.1=s:=by
 induction l with
 | nil=>
   rcases h with rfl|⟨x,i,_⟩
   .exact ⟨(s,v),by rw[NR];exact x8p,rfl⟩
   .cases i
 | cons y r o=>
   rw[NR];split
   .rename_i q;rcases h with rfl|⟨x,i,rfl⟩
    .exact ⟨(y.1,v),x8p,q.symm⟩
    .rcases x8r.1 i with rfl|i
     .exact ⟨(x.1,v),x8p,rfl⟩
     .exact ⟨x,x8b _ i,rfl⟩
   .rcases h with rfl|⟨x,i,rfl⟩
    .obtain ⟨z,n,m⟩:=o (.inl rfl);exact⟨z,x8b _ n,m⟩
    .rcases x8r.1 i with rfl|i
     .exact ⟨x,x8p,rfl⟩
     .obtain ⟨z,n,m⟩:=o (.inr ⟨x,i,rfl⟩);exact⟨z,x8b _ n,m⟩
def q8w{l:List (Str×AV)}{g:Str->AV}(h:∀x∈l,x.2=g x.1){k:Str}(o:∃x∈l,x.1=k):Re l k=some (g k):=by
 unfold Re;cases i:l.find? fun x=>decide (k=x.1)with
 | none=>
   obtain⟨x,q,rfl⟩:=o;have:=z3h.1 i x q;simp at this
 | some x=>
   have n:=z2o i;have m:=z3s i;simp at m;simp[h x n,m]
def RS(p:Pg)(H:Fit p):aP 62 [.agg p.cells] (F0 (Qj p).1 (Qj p).2):=by
 refine sC Dg func62 ?_;conv=>whnf
 repeat' ((first|refine cP (Ym p H) ?_|refine x9g rfl ?_|(apply bE<;>intro _<;>try omega))<;>conv=>whnf)
 rotate_left 1
 .have e:Qj p=(1,0):=by unfold Qj;rw[if_pos (by assumption)]
  exact QT (by rw[e]) (by rw[e])
 have F:(YM p).1=0:=by assumption
 obtain⟨Q,_⟩:=q1k F;obtain⟨u,hb,hns⟩:=JL Q;obtain⟨hg,hpl,Z⟩:=WE u;have hl:(p.A.map fun f=>AV.agg f.cells).length=p.A.length:=x8g _;repeat' ((first|(refine iM fun _=>?_)|refine OpK.makeMap rfl ?_)<;>conv=>whnf)
 refine lI (fun i:Nat×List (Str×AV)=>⟨[(1,.p (.ip p.cells)),(2,.ptr 1 0),(3,.ext 0 .map),(15,.p (.sl (p.A.map fun f=>.agg f.cells))),(16,.p (.int .i64 (p.A.map fun f=>AV.agg f.cells).length)),(17,.j i.1)],[(0,.ext (q0r i.2)),(1,.obj 80 [.p (.int .i64 0),.j 0])]⟩) (fun i=>i.1<=p.A.length/\(∀x∈i.2,x.2=eStrs (ME p x.1))/\∀(m:Nat)(u:m<p.A.length),m<i.1->∃x∈i.2,x.1=p.A[m].name) (fun i=>p.A.length-i.1) (0,[]) ⟨x8m _,by simp,by intro m u h;omega⟩ ?_;rintro⟨j,l⟩ ⟨Y,B,D⟩;simp only at Y B D⊢;rcases x8a j p.A.length with U|U
 .have L:p.A[j].name∈QK p:=x8s.2 ⟨_,x8o U,rfl⟩;conv=>whnf
  repeat' ((first|refine cP (Pm p H Q _ L) ?_|refine dA ?_|(refine gX ?_;intros)|refine OpK.mapUpdate XD rfl rfl rfl rfl rfl rfl rfl rfl rfl rfl ?_|(apply bD<;>intro _<;>try omega))<;>conv=>whnf)
  refine nX (j+1,NR l p.A[j].name (eStrs (ME p p.A[j].name))) ⟨by simp only;omega,fun x R=>?_,fun m u h=>?_⟩
  .rcases q5n R with R|rfl
   .exact B x R
   .rfl
  .refine q5p ?_;rcases x8a m j with c|c
   .exact .inr (D m u c)
   .obtain rfl:m=j:=by simp only at h;omega
    exact .inl rfl
 have J:∀n∈QK p,Re l n=some (eStrs (ME p n)):=fun n L=>q8w (g:=fun n=>eStrs (ME p n)) B (by
  obtain⟨f,r,rfl⟩:=x8s.1 L;obtain⟨m,u,rfl⟩:=List.getElem_of_mem r;exact D m u (by omega))
 clear B D;conv=>whnf
 repeat' ((first|(refine iM fun _=>?_)|refine cP (JP p (by omega) (by omega)) ?_ (ha:=.cons (Sub.refl _) .nil)|(apply bD<;>intro _<;>try omega))<;>conv=>whnf)
 have F:Qj p=match(UD p).find? fun t=>decide (t.kind=4) && !VJ t.name (ME p t.C) t.args []with
  |some t=>(8,t.id)
  |none=>(0,0):=by unfold Qj;rw[if_neg (by omega)]
 have hil:=WY (sheetOf p).l;have hib:(sheetOf p).l.length<=200:=by have:=(QU p).2.2.2.1;omega
 have z:=PG (q:=fun t=>decide (t.kind=4) && !VJ t.name (ME p t.C) t.args []) (sheetOf p).l;rw[YG]at z;have G:Qj p=match((sheetOf p).l.find? fun o=>decide (o.s.kind=4) && !VJ o.s.name (ME p o.s.C) o.s.args []).map (fun o=>o.s.id)with
  |some a=>(8,a)
  |none=>(0,0):=by
  rw[F,z];cases(UD p).find? fun t=>decide (t.kind=4) && !VJ t.name (ME p t.C) t.args []<;>rfl
 rw[G];refine lI (fun k:Nat=>⟨[(2,.ptr 1 0),(3,.ext 0 .map),(33,.p (ZE (sheetOf p).l)),(34,.p (.int .i64 ((sheetOf p).l.map fun i=>AV.agg i.cells).length)),(35,.j k)],[(0,.ext (q0r l)),(1,.obj 80 [.p (.int .i64 0),.j 0])]⟩) (fun k=>k<=(sheetOf p).l.length/\((sheetOf p).l.drop k).find? (fun o=>decide (o.s.kind=4) && !VJ o.s.name (ME p o.s.C) o.s.args [])=(sheetOf p).l.find? fun o=>decide (o.s.kind=4) && !VJ o.s.name (ME p o.s.C) o.s.args []) (fun k=>(sheetOf p).l.length-k) 0 ⟨x8m _,rfl⟩ ?_;rintro k ⟨h5,E⟩;rcases x8a k (sheetOf p).l.length with y|y;rotate_left 1
 .rw [<-E,PK y];conv=>whnf
  repeat' ((first|refine x9g rfl ?_|(apply bD<;>intro _<;>try omega))<;>conv=>whnf)
  exact QT rfl rfl
 have hw:=Wg H y;have M:(sheetOf p).l[k].s.args.length<=21000:=by
  have:=AC (sheetOf p).l[k].s;have:=PX (sheetOf p).l[k].s.args;omega
 have O:(sheetOf p).l[k].s.kind=4->(sheetOf p).l[k].s.C∈QK p:=fun K=>by
  have d:(sheetOf p).l[k].s∈UD p:=by
   rw[<-YG];exact x8s.2 ⟨_,x8o y,rfl⟩
  unfold UD at d;obtain⟨f,r,I⟩:=x9m.1 d;exact(Wy Q r I K).1
 conv=>whnf
 repeat' ((first|refine cP (Nt _ _ M) ?_|(refine gX ?_;intros)|refine OpK.lookup XD rfl rfl rfl rfl rfl rfl rfl rfl (J _ (O (by omega))) ?_|((first|apply bD|apply bN)<;>intro _<;>try omega))<;>conv=>whnf)
 all_goals first
  | (have V:=PH (p:=fun o:Item=>decide (o.s.kind=4) && !VJ o.s.name (ME p o.s.C) o.s.args []) y (by simp[*])
     rw[<-E,V];exact QT rfl rfl)
  |exact nX (k+1) ⟨by omega,by rw[<-E,Zi (p:=fun o:Item=>decide (o.s.kind=4) && !VJ o.s.name (ME p o.s.C) o.s.args []) y (by simp[*])]⟩
def q5e(p:Pg):Int×Int:=
 if KT p=false then(1,0)else
 if(QO p).1≠0 then QO p else
 if(YM p).1≠0 then YM p else
 if(Uw p).1≠0 then Uw p else Qj p
def EJ(p:Pg)(h:Fit p):aP 37 [.agg p.cells] (F0 (q5e p).1 (q5e p).2):=by
 refine sC RX func37 ?_;conv=>whnf
 repeat' ((first|refine cP (Cg _) ?_|refine cP (KP p h) ?_|refine cP (Ym p h) ?_|refine cP (A5 p h) ?_|refine cP (RS p h) ?_|refine x9g rfl ?_|((first|apply bD|apply bN)<;>intro _<;>try omega))<;>conv=>whnf)
 all_goals exact QT (by unfold q5e;simp[*]) (by unfold q5e;simp[*])
def QL(p:Pg):Bool:=decide ((q5e p).1=0)
def DS(p:Pg)(h:Fit p):aP 9 [.agg p.cells] (.bool (QL p)):=by
 refine sC RZ func9 ?_;conv=>whnf
 repeat' (refine cP (EJ p h) ?_;conv=>whnf)
 exact RetK.bool rfl
def XG(x:Int):Int:=if x = -1 then 9223372036854775807 else x
def M7(x:Int):aP 134 [.int .i64 x] (.int .i64 (XG x)):=by
 refine sC RW func134 ?_;conv=>whnf
 repeat' (apply bD<;>intro _<;>first|omega|conv=>whnf)
 all_goals exact RetK.int (by unfold XG;simp[*])
def H8(x:Int):aP 172 [.int .i64 x] (.bool false):=by
 refine sC Vi func172 ?_;conv=>whnf
 skip
 exact RetK.bool (by simp)
def cmpI(x y:Int):Int:=if x<y then -1 else if y<x then 1 else 0
def VM(x y:Int):aP 122 [.int .i64 x,.int .i64 y] (.int .i64 (cmpI x y)):=by
 refine sC LI func122 ?_;conv=>whnf
 repeat' ((first|refine cP (H8 _) ?_|((first|apply bD|apply bB)<;>intro _<;>try omega))<;>conv=>whnf)
 all_goals first
  |contradiction
  |exact RetK.int (by unfold cmpI;simp[*])
  |exact RetK.int (by unfold cmpI;rw[if_neg (by assumption),if_pos (by omega)])
  |exact RetK.int (by unfold cmpI;rw[if_neg (by assumption),if_neg (by omega)])
def orI:List Int->Int
 |[]=>0
 |a::r=>if a=0 then orI r else a
def FZ(l:List Int):aP 121 [QE l] (.int .i64 (orI l)):=by
 refine sC Df func121 ?_;conv=>whnf
 repeat' ((refine iM fun _=>?_)<;>conv=>whnf)
 have n:(l.map (AV.int .i64)).length=l.length:=x8g _;refine lI (fun j:Nat=>⟨[(3,.j 0),(6,.p (QE l)),(7,.p (.int .i64 (l.map (AV.int .i64)).length)),(8,.j j)],[]⟩) (fun j=>j<=l.length/\orI (l.drop j)=orI l) (fun j=>l.length-j) 0 ⟨x8m _,rfl⟩ ?_;rintro j ⟨m,h⟩;rcases x8a j l.length with i|i
 .rw [x9t i,orI]at h;conv=>whnf
  repeat' ((first|(refine gX ?_;intros)|((first|apply bD|apply bE)<;>intro _<;>try omega))<;>conv=>whnf)
  all_goals first
   |exact RetK.int (by rw[<-h,if_neg (by assumption)])
   |exact nX (j+1) ⟨by omega,by rw[<-h,if_pos (by assumption)]⟩
   |exact nX (j+1) ⟨by omega,by rw[<-h,if_pos (by simp_all)]⟩
 .rw [x9v i,orI]at h;conv=>whnf
  repeat' (apply bD<;>intro _<;>first|omega|conv=>whnf)
  exact RetK.int h
def A2(l:List S)(o:Int):Int:=match l with
 |[]=>o
 |t::_=>t.id
def I6(l:List S)(o:Int):aP 241 [.sl (l.map fun t=>.agg t.cells),.int .i64 o] (.int .i64 (A2 l o)):=by
 refine sC RU func241 ?_;conv=>whnf
 repeat' ((first|(refine iM fun _=>?_)|(apply bD<;>intro _<;>try omega))<;>conv=>whnf)
 .cases l with
  |nil=>simp at*
  | cons t r=>
    refine IdxK.at (k:=0) rfl rfl rfl ?_;exact RetK.int rfl
 .cases l with
  |nil=>exact RetK.int rfl
  |cons t r=>simp at*
def ZN(a b:Step):Bool:=decide (a.src=b.src)&&decide (a.dst=b.dst)
def Jq(a b:Step):aP 229 [.agg a.cells,.agg b.cells] (.bool (ZN a b)):=by
 refine sC Db func229 ?_;conv=>whnf
 repeat' (apply bD<;>intro _<;>first|omega|conv=>whnf)
 all_goals first
  |exact RetK.bool (show(a.dst==b.dst)=ZN a b by unfold ZN;simp[*];rfl)
  |exact RetK.ff (by unfold ZN;simp[*])
def TU(a b:Step):Int:=orI [cmpI (XG a.src) (XG b.src),cmpI (XG a.dst) (XG b.dst),cmpI a.kind b.kind]
def T3(a b:Step):aP 227 [.agg a.cells,.agg b.cells] (.int .i64 (TU a b)):=by
 refine sC Dd func227 ?_;conv=>whnf
 repeat' ((first|refine cP (M7 _) ?_|refine cP (VM _ _) ?_|refine cP (FZ [cmpI (XG a.src) (XG b.src),cmpI (XG a.dst) (XG b.dst),cmpI a.kind b.kind]) ?_|refine dA ?_|refine x9g rfl ?_|refine aD ?_|refine BsK.pureL rfl rfl ?_)<;>conv=>whnf)
 exact RetK.int rfl
end Go.Ab
