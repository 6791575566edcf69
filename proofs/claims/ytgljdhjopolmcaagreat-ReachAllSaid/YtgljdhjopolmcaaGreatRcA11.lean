/- The library's contracts at this seat's program, in plain words (printed by the kit's lay-plain.mjs). Conditions: none. -/
import Derived.Shelf.Sort.Plain
import Derived.Shelf.Slices.In.SortNone
import Derived.Shelf.Slices.CompactS
import Derived.Ground.Names2Prog
import Derived.Shelf.Slices.SearchI
import Derived.Shelf.Slices.Empties
import Derived.Shelf.Spec.SlicesInsert
import Derived.Shelf.Spec.SlicesInsertGrow
import Derived.Test.YtgljdhjopolmcaaGreatProg
import Derived.Test.YtgljdhjopolmcaaGreatRcA9
set_option linter.all false
set_option maxRecDepth 100000
set_option maxHeartbeats 16000000
open List (findIdx?_cons)
namespace Go.Proofs
open Go.Shelf Tryz
def Tryz.lays190_ren:Go.Shelf.Ren:=⟨fun|190=>135|125=>162|258=>195|128=>221|129=>222|302=>252|303=>253|304=>254|305=>255|306=>256|307=>257|308=>211|309=>258|310=>259|333=>289|329=>274|330=>275|334=>290|335=>291|336=>164|344=>317|n=>n,fun|31=>22|9=>9|3=>3|46=>227|0=>0|51=>267|53=>269|4=>4|183=>261|182=>260|131=>178|5=>5|218=>296|222=>300|228=>318|229=>30|n=>n,fun|n=>n⟩
theorem kT10{α:Type}{x:Option α}{a b:α}(h:x=some a)(e:a=b:=by kernel_rfl):x=some b:=e▸h
def Ju:Go.Proofs.Lays.n190 Tryz.prog Tryz.lays190_ren:=⟨by kernel_rfl,kT10 func162,kT10 func221,kT10 func222,kT10 func135,kT10 func195,kT10 func252,kT10 func253,kT10 func254,kT10 func255,kT10 func256,kT10 func257,kT10 func211,kT10 func258,kT10 func259,kT10 func274,kT10 func275,kT10 func289,kT10 func290,kT10 func291,kT10 func164,kT10 func317,underlying0,isAgg0,sizeOf0,zeroValue0,underlying3,isAgg3,sizeOf3,zeroValue3,underlying4,isAgg4,sizeOf4,zeroValue4,underlying5,isAgg5,sizeOf5,zeroValue5,underlying9,isAgg9,sizeOf9,zeroValue9,underlying22,isAgg22,sizeOf22,zeroValue22,underlying227,isAgg227,sizeOf227,zeroValue227,underlying267,isAgg267,sizeOf267,zeroValue267,underlying269,isAgg269,sizeOf269,zeroValue269,underlying178,isAgg178,sizeOf178,zeroValue178,underlying260,isAgg260,sizeOf260,zeroValue260,underlying261,isAgg261,sizeOf261,zeroValue261,underlying296,isAgg296,sizeOf296,zeroValue296,underlying300,isAgg300,sizeOf300,zeroValue300,underlying318,isAgg318,sizeOf318,zeroValue318,underlying30,isAgg30,sizeOf30,zeroValue30⟩
def Tryz.lays194_ren:Go.Shelf.Ren:=⟨fun|194=>136|n=>n,fun|31=>22|9=>9|3=>3|4=>4|0=>0|n=>n,fun|n=>n⟩
def Jy:Go.Proofs.Lays.n194 Tryz.prog Tryz.lays194_ren:=⟨by kernel_rfl,kT10 func136,underlying0,isAgg0,sizeOf0,zeroValue0,underlying3,isAgg3,sizeOf3,zeroValue3,underlying4,isAgg4,sizeOf4,zeroValue4,underlying9,isAgg9,sizeOf9,zeroValue9,underlying22,isAgg22,sizeOf22,zeroValue22⟩
def Tryz.laysB_ren:Go.Shelf.Ren:=⟨fun|25=>287|31=>313|32=>314|37=>163|n=>n,fun|22=>54|3=>3|4=>4|40=>227|0=>0|n=>n,fun|n=>n⟩
def Bl:Go.Proofs.Lays2.n25 Tryz.prog Tryz.laysB_ren:=⟨by kernel_rfl,kT10 func287,kT10 func313,kT10 func314,kT10 func163,underlying0,isAgg0,sizeOf0,zeroValue0,underlying3,isAgg3,sizeOf3,zeroValue3,underlying4,isAgg4,sizeOf4,zeroValue4,underlying54,isAgg54,sizeOf54,zeroValue54,underlying227,isAgg227,sizeOf227,zeroValue227⟩
def Tryz.laysI_ren:Go.Shelf.Ren:=⟨fun|21=>288|27=>315|28=>316|35=>324|39=>326|n=>n,fun|22=>54|3=>3|4=>4|0=>0|n=>n,fun|n=>n⟩
def DE:Go.Proofs.Lays2.n21 Tryz.prog Tryz.laysI_ren:=⟨by kernel_rfl,kT10 func288,kT10 func315,kT10 func316,kT10 func324,kT10 func326,underlying0,isAgg0,sizeOf0,zeroValue0,underlying3,isAgg3,sizeOf3,zeroValue3,underlying4,isAgg4,sizeOf4,zeroValue4,underlying54,isAgg54,sizeOf54,zeroValue54,by kernel_rfl⟩
end Go.Proofs
namespace Go.Ab
open Go.Proofs.Tryz
open Go.Proofs Go.Sort
variable {α:Type}{b clock j k:Nat}{e:TypeId}{es:Array MapEntry}{l:List Str}{p:Pg}{s:Str}{v:Value}{vs:Array Value}{w:World}{β:Lab}{σ:Mem}
def Gb{c c':Chunk}{w':World}{i:BInfo}(h:HRel σ β [(k,c)] w)(y:β k=some i)(q:Frm (fun b=>b=i.blk) w w')(u:c'.holds σ β w' k):HRel σ β [(k,c')] w'/\Later σ β [(k,c)] w σ β [(k,c')] w':=by
 have r:=h.apart k (by simp) i y;refine⟨⟨fun b cs m=>?_,fun j d n=>?_,by simp,fun j n i' o b m=>?_,fun j n B t _ _ _ _ _ _ _=>?_⟩,Mem.le_refl σ,⟨q.os,q.tape,q.output,q.drawn,q.size,fun b m A=>q.block b m fun x=>A ⟨k,by simp,i,y,.inl x.symm⟩⟩,
  fun b f g=>absurd f g,fun b ⟨j,n,i',o,m⟩=>.inl ⟨j,by simpa using n,i',o,m⟩,fun _ _ _=>rfl⟩
 .obtain ⟨e,a,z⟩:=h.mem b cs m;exact⟨e,a,(q.block b (z1a.1 z).1 fun x=>by rw[x,(r _ i.has_blk).1]at m;cases m).trans z⟩
 .simp at n;obtain⟨rfl,rfl⟩:=n;exact u
 .simp at n;subst n;rw[y]at o;cases o;exact⟨(r b m).1,z4c (r b m).2 q.size⟩
 .simp at n t;rw[n,t]
def YK(h:w.heap[b]?=some (.cells vs e (0,0)))(o:Nat):w.frozen? ⟨b,o,none⟩=false:=by
 simp[World.frozen?,h]
def FY(h:w.heap[b]?=some (.cells vs e (0,0)))(o:Nat):w.cell? ⟨b,o,none⟩=vs[o]?:=by
 simp[World.cell?,h]
def Q8[Inhabited α]{enc:α->Value}{n:Nat}{d:Array α}{os:Array Obj}(h:w.heap[b]?=some (.cells vs e (0,0)))(m:b<w.heap.size):
  Frm (fun x=>x=b) w (grow (putRow enc (Sort.ahead w n) b 0 d) os)/\(grow (putRow enc (Sort.ahead w n) b 0 d) os).heap[b]?=some (.cells (putCells enc 0 d vs) e (0,0)):=by
 have i:(grow (putRow enc (Sort.ahead w n) b 0 d) os).heap=w.heap.modify b (onCells (putCells enc 0 d))++os:=rfl;refine⟨⟨rfl,rfl,rfl,Nat.le_add_right _ _,?_,fun k o q=>?_⟩,?_⟩
 .rw [i];simp
 .rw [i,z5k (by simpa using o),z5u,if_neg (z5q q)]
 .rw [i,z5k (by simpa using m),z5u,if_pos rfl,h];rfl
def FD[Inhabited α]{enc:α->Value}{d:Array α}(m:d.size<=vs.size)(i:k<d.size):(putCells enc 0 d vs)[k]?=some (enc d[k]):=by
 unfold putCells;have h:k<vs.size:=by omega
 simp[h,i]
def AB(h:∀(m:Nat)(x:AV),(l.map AV.str)[m]?=some x->x.cells.length=1/\∀(j:Nat)(c:AV),x.cells[j]?=some c->∃u:Value,vs[m*1+j]?=some u/\Rep σ c u)(q:j<l.length):
  vs[j]?=some (encStr l[j])/\l[j].length<=maxLen:=by
 obtain⟨u,i,n⟩:=(h j (.str l[j]) (by simp[q])).2 0 (.str l[j]) rfl;cases n with
 |str _ o=>exact⟨by simpa using i,o⟩
def AP(h:∀j (n:j<l.length),vs[j]?=some (encStr l[j]))(t:∀s∈l,s.length<=maxLen):∀(m:Nat)(x:AV),(l.map AV.str)[m]?=some x->x.cells.length=1/\∀(j:Nat)(c:AV),x.cells[j]?=some c->∃u:Value,vs[m*1+j]?=some u/\Rep σ c u:=by
 intro m x i;rw[z1u]at i;cases q:l[m]?with
 |none=>rw[q]at i;cases i
 | some s=>
   rw[q]at i;cases i;obtain⟨r,rfl⟩:=z1k.1 q;refine⟨rfl,fun j c n=>?_⟩;have o:j=0:=by
    have:=(z1k.1 n).1;simpa[AV.cells]using this
   subst o;simp only[AV.cells,z7h,z4r]at n;subst n;exact⟨_,by simpa using h m r,.str _ (t _ (z1h r))⟩
def x5b{m:Array Value}{l:LV}(h:m.size=[l].length):∃v,m=#[v]:=⟨m[0]'(by simp at h;omega),by apply Array.ext;simpa using h;intro i o n;simp at n;subst n;rfl⟩
def Pt{n:Nat}{i:BInfo}(h:RepL σ β (.hd k 0 n) v)(r:β k=some i):v=.slice (some ⟨i.blk,0,none⟩) n i.cap:=by
 rcases h.hdI with⟨m,_⟩|⟨i',o,m,u,q,t⟩
 .rw [r]at m;cases m
 .rw [r]at m;cases m;rcases q with q|q
  .rw [t,q];simp
  .omega
def Tc{n:Nat}(h:RepL σ β (.hd k 0 n) v)(m:β k=none):v=.slice none 0 0/\n=0:=by
 rcases h.hdI with⟨_,_,q,r⟩|⟨i',o,i,_⟩
 .exact ⟨r,q⟩
 .rw [m]at i;cases i
def KL(l:List Str):List Str:=l.mergeSort fun x y=>decide (x<=y)
def PL(l:List Str)(F:l.length<=1000000000):
  SpecH prog 135 [.hd 1000 0 l.length] [(1000,.own 9 1 (l.map .str))] (fun r H=>r=.p (.tup [])/\H=[(1000,.own 9 1 ((KL l).map .str))]):=by
 refine⟨call135,fun σ β w I R q hH=>?_⟩;obtain⟨v,rfl⟩:=x5b R;have q:=q 0 _ rfl;simp only[z5x,z2k,z5p,Array.getD_eq_getD_getElem?]at q;have q:RepL σ β (.hd 1000 0 l.length) v:=by simpa using q
 have c:=hH.chunks 1000 _ z1j;have h:(KL l).length=l.length:=by unfold KL;simp
 rcases c with⟨a,f⟩|⟨i,vs,y,B,g,D,E,J,K⟩
 .have A:l=[]:=by simpa using f
  subst A;obtain⟨rfl,_⟩:=Tc q a;have t:=Any.slices_Sort_string_none Ju none 0 w;change Calls prog 135 _ _ _ at t;refine t.mono ?_;rintro e w' ⟨rfl,rfl⟩;exact⟨.p (.tup []),.tuple #[],σ,β,_,rfl,⟨rfl,rfl⟩,.p (.tup [] #[] (fun _=>undef) rfl (by simp) (by simp)),by simpa[KL]using hH,by simpa[KL]using Later.refl _ _ _ _⟩
 .have C:=Pt q y;subst C;have x:=(hH.apart 1000 (by simp) i y i.blk i.has_blk).2;have Q:l.length<=vs.size:=by rw[D,z8b];simpa using E
  have m:=fun j o=>AB (σ:=σ) (l:=l) K (j:=j) o;have t:=Any.slices_Sort_string Ju i.blk 0 i.cap l w (fun j o=>by
   have u:j<l.length:=by simpa using o
   refine⟨?_,YK g _⟩;rw[FY g,z3m,(m j u).1];simp[u]) x (by omega)
  change Calls prog 135 _ _ _ at t;refine t.mono ?_;rintro e w' ⟨rfl,n,os,rfl⟩;obtain⟨O,M⟩:=Q8 (enc:=encStr) (n:=n) (os:=os) (d:=(KL l).toArray) g x;obtain⟨z,L⟩:=Gb (c':=.own 9 1 ((KL l).map .str)) hH y O (.inr ⟨i,_,y,B,M,by simpa[putCells]using D,by simpa[h]using E,J,AP (fun j o=>by
   have:=FD (enc:=encStr) (d:=(KL l).toArray) (vs:=vs) (by simp[h];omega) (k:=j) (by simpa using o);simpa using this) fun s G=>by
    have:s∈l:=by unfold KL at G;simpa using G
    obtain⟨j,o,rfl⟩:=z2e.1 this;exact(m j o).2⟩)
  exact⟨.p (.tup []),.tuple #[],σ,β,_,rfl,⟨rfl,rfl⟩,.p (.tup [] #[] (fun _=>undef) rfl (by simp) (by simp)),z,L⟩
def P7(l:List Str):(Go.Lib.compact l).length<=l.length:=by
 unfold Go.Lib.compact Go.Lib.compactUpTo;rw[z0s];exact z2g (z2s _ _) (by simp)
def Z4(h:s∈Go.Lib.compact l):s∈l:=by
 unfold Go.Lib.compact Go.Lib.compactUpTo at h;obtain⟨j,m,rfl⟩:=z1z.1 h;have:=(z2u.1 m).1;have i:j<l.length:=by simpa using this
 simp[i]
def PP[Inhabited α]{enc:α->Value}{d:Array α}{o:Nat}:(putCells enc o d vs).size=vs.size:=by simp[putCells]
def DD(l:List Str)(J:l.length<=1000000000):
  SpecH prog 136 [.hd 1000 0 l.length] [(1000,.own 9 1 (l.map .str))] (fun r H=>r=.hd 1000 0 (Go.Lib.compact l).length/\H=[(1000,.own 9 1 ((Go.Lib.compact l).map .str))]):=by
 refine⟨call136,fun σ β w K U o hH=>?_⟩;obtain⟨v,rfl⟩:=x5b U;have o:=o 0 _ rfl;have o:RepL σ β (.hd 1000 0 l.length) v:=by simpa using o
 have c:=hH.chunks 1000 _ z1j;have Q:=P7 l;rcases c with⟨t,f⟩|⟨i,vs,y,C,g,E,F,L,M⟩
 .have A:l=[]:=by simpa using f
  subst A;obtain⟨rfl,_⟩:=Tc o t;have u:=Any.slices_Compact_string_empty Jy none 0 w;change Calls prog 136 _ _ _ at u;refine u.mono ?_;rintro e w' ⟨rfl,rfl⟩;exact⟨.hd 1000 0 0,.slice none 0 0,σ,β,_,rfl,⟨rfl,rfl⟩,.hdn 1000 t,by simpa[Go.Lib.compact,Go.Lib.compactUpTo]using hH,by simpa[Go.Lib.compact,Go.Lib.compactUpTo]using Later.refl _ _ _ _⟩
 .have D:=Pt o y;subst D;have B:=(hH.apart 1000 (by simp) i y i.blk i.has_blk).2;have R:l.length<=vs.size:=by rw[E,z8b];simpa using F
  have x:l.length<=i.cap:=by simpa using F
  have h:=fun j m=>AB (σ:=σ) (l:=l) M (j:=j) m;have u:=Any.slices_Compact_string Jy i.blk 0 i.cap l w (fun j m=>by
   have z:j<l.length:=by simpa using m
   refine⟨?_,YK g _⟩;rw[FY g,z3m,(h j z).1];simp[z]) (by omega) x
  change Calls prog 136 _ _ _ at u;refine u.mono ?_;rintro e w' ⟨rfl,q,rfl⟩;obtain⟨I,G⟩:=Q8 (enc:=encStr) (n:=q) (os:=#[]) (d:=(Go.Lib.compact l++List.replicate (l.length-(Go.Lib.compact l).length) []).toArray) g B;rw[grow_empty]at I G;obtain⟨a,O⟩:=Gb (c':=.own 9 1 ((Go.Lib.compact l).map .str)) hH y I (.inr ⟨i,_,y,C,G,by rw[PP];exact E,by simp;omega,L,AP (fun j m=>by
   have:=FD (enc:=encStr) (d:=(Go.Lib.compact l++List.replicate (l.length-(Go.Lib.compact l).length) []).toArray) (vs:=vs) (by simp;omega) (k:=j) (by simp;omega);rw[this];simp[List.getElem_append_left m]) fun s V=>by
    obtain⟨j,m,rfl⟩:=z2e.1 (Z4 V);exact(h j m).2⟩)
  refine⟨.hd 1000 0 (Go.Lib.compact l).length,_,σ,β,_,rfl,⟨rfl,rfl⟩,?_,a,O⟩;have:=z8f (σ:=σ) (β:=β) 1000 0 (Go.Lib.compact l).length i 0 y (by omega) (.inl (by simp));simpa using this
def LK(q:(XZ p).1=0){f:Pr}(o:f∈p.A){t:S}(r:t∈flL f.body):knownB p f (procsN p) t=true:=by
 obtain⟨_,_,h⟩:=UA q;have i:=z5g.1 h f o;unfold UJ at i;cases m:(XS (N8 f)||(N8 f).any fun n=>p.C.any fun s=>n==s)<;>rw[m]at i
 .simp only[z1o,z7r]at i;have:=z3l.1 i t r;simpa using this
 .cases i
def Ys(q:(XZ p).1=0){f:Pr}(n:f∈p.A){t:S}(r:t∈flL f.body)(o:t.kind=4):t.D∈procsN p/\t.D≠mainS:=by
 have:=LK q n r;unfold knownB at this;simp only[z1p,z4f,z2z]at this;rcases this.2 with h|h
 .exact absurd o h
 .simp only[z4w,z6p,ne_eq]at h;refine⟨?_,h.1⟩;obtain⟨s,i,m⟩:=z3z.1 h.2;have:=eq_of_beq m;exact this▸i
def FU(f:Pr):List Str:=((flL f.body).filter fun t=>decide (t.kind=4)).map S.D
def JP(f:Pr):List Str:=Go.Lib.compact (KL (FU f))
def Va:s∈KL l↔s∈l:=by unfold KL;simp
def JW(l:List Str):(KL l).length=l.length:=by unfold KL;simp
def P3(f:Pr):(JP f).length<=QY f.body:=by
 have:=P7 (KL (FU f));rw[JW]at this;unfold JP;refine z2g this ?_;unfold FU;rw[z0s,<-Hp];exact z2s _ _
def MF(r:(XZ p).1=0){f:Pr}(q:f∈p.A)(h:s∈JP f):s∈procsN p:=by
 have i:=Va.1 (Z4 h);obtain⟨t,m,rfl⟩:=z1z.1 i;obtain⟨n,o⟩:=z2u.1 m;exact(Ys r q n (by simpa using o)).1
def Vd{n:Str}(h:n∈procsN p):∃(k:Nat) (o:k<p.A.length),Zs (fun f=>f.name==n) p.A=k/\p.A.find? (fun f=>f.name==n)=some p.A[k]/\p.A[k].name=n:=by
 have q:p.A.any (fun f=>f.name==n)=true:=by
  obtain⟨f,i,m⟩:=z1z.1 h;exact z3z.2 ⟨f,i,by simp[m]⟩
 obtain⟨k,o,i,m,r⟩:=A0 q;exact⟨k,o,i,r,by simpa using m⟩
def Cp(p:Pg)(n:Str)(k:Nat)(g:k<p.A.length)(c:Zs (fun f=>f.name==n) p.A=k)(a:cntP p.A<=1000):aP 249 [.ip (sheetOf p).cells,.str n] (eStrs (JP p.A[k])):=by
 refine sC M6 func249 ?_;conv=>whnf
 repeat' ((first|(refine iM fun _=>?_)|refine cP (VK _ _) ?_|refine cP (E4 p (j:=k) (f:=p.A[k]'g) (by simp) a) ?_ (ha:=.cons (Sub.refl _) (.cons (Sub.int (by exact c)) .nil)))<;>conv=>whnf)
 have m:=X1 (k:Nat) 0 (-1) 0 (QL p.A k) p.A[k].body;have u:(itL (k:Nat) 0 (-1) 0 (QL p.A k) p.A[k].body).length<=1000:=by
  have:=(QK p).2.2.2.2 k p.A[k] (by simp);rw[WA];omega
 generalize x:itL (k:Nat) 0 (-1) 0 (QL p.A k) p.A[k].body=its at m u⊢;have d:=YV its;have r:FU p.A[k]=(its.filter fun it=>decide (it.s.kind=4)).map fun it=>it.s.D:=by
  unfold FU;rw[<-m,List.filter_map,z4e];rfl
 refine lJ (fun i:Nat×List Str=>⟨[(5,.hd 0 0 i.2.length),(12,.p (YC its)),(13,.p (.int .i64 (its.map fun i=>AV.agg i.cells).length)),(14,.j i.1)],[(0,.own 9 1 (i.2.map .str))]⟩) (fun i=>i.1<=its.length/\i.2.length<=i.1/\i.2++((its.drop i.1).filter fun it=>decide (it.s.kind=4)).map (fun it=>it.s.D)=FU p.A[k]) (fun i=>its.length-i.1) (0,[]) (lM [(0,.own 9 1 [])]) ⟨z1q _,z1l _,by rw[r];rfl⟩ ?_;rintro⟨j,h⟩ ⟨y,z,o⟩;simp only at y z o⊢;rcases z1w j its.length with t|t
 .conv=>whnf
  repeat' ((first|(refine gX ?_;intros)|refine pS ?_|(apply bD<;>intro _<;>try omega))<;>conv=>whnf)
  .exact ⟨(j+1,h++[its[j].s.D]),⟨by simp only;omega,by simp;omega,by simp only;rw[<-o,QP t,z8z,if_pos (by simp[*])];simp⟩,by simp only;omega,Le.of_eq (by simp only[z0e,z1v];rfl)⟩
  .exact nX (j+1,h) ⟨by simp only;omega,by simp only;omega,by simp only;rw[<-o,QP t,z8z,if_neg (by simp[*])]⟩
 .have q:h=FU p.A[k]:=by
   rw[z1b t]at o;simpa using o
  conv=>whnf
  repeat' ((first|(apply bD<;>intro _<;>try omega)|(refine cH rH1 0 (PL h (by omega)) ?_)|(refine cH rH1 0 (DD (KL h) (by rw[JW];omega)) ?_ (ha:=(z1e (z6m (by rw[JW];rfl)) z3a))))<;>conv=>whnf)
  exact⟨_,.hd rfl (by simp),by unfold JP;rw[<-q];rfl⟩
def VE(out:List Str):List Str->List Str
 |[]=>out
 |n::r=>VE (if(out.any fun s=>n==s)=true then out else out++[n]) r
def Xo{out:List Str}(h:j<l.length):VE out (l.drop j)=VE (if(out.any fun s=>l[j]==s)=true then out else out++[l[j]]) (l.drop (j+1)):=by
 rw[QP h,VE]
theorem DI{p:Pg}:∀(l:List Str){out:List Str},out.Nodup->(∀s∈out,s∈procsN p)->(∀s∈l,s∈procsN p)->(VE out l).Nodup/\(∀s∈VE out l,s∈procsN p)/\∃r,VE out l=out++r
 |[],out,h1,h2,_=>⟨h1,h2,[],by rw[VE];simp⟩
 | n::r,out,h1,h2,h3=>by
   rw[VE];split
   .exact DI r h1 h2 fun s h=>h3 s (z1x _ h)
   .rename_i y;have i:n∉out:=fun x=>y (z3z.2 ⟨n,x,by simp⟩);obtain⟨o,q,z,t⟩:=DI (p:=p) r (out:=out++[n]) (z3v.2 ⟨h1,by simp,fun a ha b m=>by simp at m;subst m;exact fun u=>i (u▸ha)⟩) (fun s h=>by
     rcases z0o.1 h with h|h
     .exact h2 s h
     .simp at h;subst h;exact h3 _ z1j) fun s h=>h3 s (z1x _ h)
    exact⟨o,q,n::z,by rw[t];simp⟩
def P4(p:Pg)(n:Str):List Str:=match p.A.find? (fun f=>f.name==n)with
 |some f=>JP f
 |none=>[]
def UM(p:Pg):Nat->Nat->List Str->List Str
 |0,_,out=>out
 | fuel+1,i,out=>match out[i]?with
   |some n=>UM p fuel (i+1) (VE out (P4 p n))
   |none=>out
def E8(p:Pg)(n:Str):List Str:=KL (UM p (p.A.length+1) 0 [n])
theorem PT{α:Type}[BEq α][LawfulBEq α]:∀{l m:List α},l.Nodup->(∀s∈l,s∈m)->l.length<=m.length
 |[],m,_,_=>z1q _
 | a::r,m,h1,h2=>by
   have ha:=h2 a z1j;have:=PT (l:=r) (m:=m.erase a) (z2i.1 h1).2 fun s h=>(List.mem_erase_of_ne fun i=>(z2i.1 h1).1 (by rw[<-i];exact h)).2 (h2 s (z1x _ h));rw[List.length_erase_of_mem ha]at this;have:=z7l ha;simp only[z2k];omega
def RA{n:Str}(i:k<p.A.length)(h:p.A.find? (fun f=>f.name==n)=some p.A[k]):P4 p n=JP p.A[k]:=by
 unfold P4;rw[h]
def RE(m:(XZ p).1=0){n:Str}(h:s∈P4 p n):s∈procsN p:=by
 unfold P4 at h;split at h
 .rename_i f i;exact MF m (z3b i) h
 .cases h
def q1a(p:Pg)(n:Str)(H:(XZ p).1=0)(U:n∈procsN p):aP 189 [.ip (sheetOf p).cells,.str n] (eStrs (E8 p n)):=by
 refine sC SQ func189 ?_;conv=>whnf
 obtain⟨R,hb,Z⟩:=UA H;obtain⟨hg,hpl,M⟩:=ZR R;have Y:(procsN p).length=p.A.length:=by simp[procsN]
 repeat' ((first|refine z1s rfl ?_|refine aD ?_|refine z5l (fun x hx=>by rcases z0i.1 hx with rfl;rfl) rfl ?_)<;>conv=>whnf)
 refine lI (fun i:Nat×List Str=>⟨[(0,.p (.ip (sheetOf p).cells)),(5,.hd 0 0 i.2.length),(6,.j i.1)],[(0,.own 9 1 (i.2.map .str))]⟩) (fun i=>i.1<=i.2.length/\i.2.Nodup/\(∀s∈i.2,s∈procsN p)/\UM p (p.A.length+1-i.1) i.1 i.2=UM p (p.A.length+1) 0 [n]) (fun i=>p.A.length+1-i.1) (0,[n]) ⟨z1q _,by simp,by simpa using U,rfl⟩ ?_;rintro⟨j,out⟩ ⟨I,g,f,t⟩;simp only at I g f t⊢;have hol:=PT g f;rcases z1w j out.length with c|c
 .obtain ⟨k,F,E,D,V⟩:=Vd (f _ (z1h c));have C:=P3 p.A[k];have L:QY p.A[k].body<=200:=by
   have:=(QK p).2.2.2.2 k p.A[k] (by simp);omega
  conv=>whnf
  repeat' ((first|(refine gX ?_;intros)|refine z4u j rfl c ?_|refine z5r j 0 (.str out[j]) (by omega) (by simp[c]) ?_|refine cP (Cp p out[j] k F E (by omega)) ?_|(apply bD<;>intro _<;>try omega))<;>conv=>whnf)
  have d:∀s∈JP p.A[k],s∈procsN p:=fun s h=>MF H (z1h F) h;have B:=RA F D;have r:UM p (p.A.length+1-j) j out=UM p (p.A.length+1-(j+1)) (j+1) (VE out (JP p.A[k])):=by
   rw[show p.A.length+1-j=(p.A.length+1-(j+1))+1 by omega,UM,z0c c];simp only;rw[B]
  rw[r]at t;obtain⟨y,z,rr,a⟩:=DI (JP p.A[k]) g f d;generalize JP p.A[k]=cs at d t y z a C⊢;have G:(cs.map AV.str).length=cs.length:=z0s _;refine lI (fun i:Nat×List Str=>⟨[(0,.p (.ip (sheetOf p).cells)),(5,.hd 0 0 i.2.length),(6,.j j),(22,.p (eStrs cs)),(23,.p (.int .i64 (cs.map AV.str).length)),(24,.j i.1)],[(0,.own 9 1 (i.2.map .str))]⟩) (fun i=>i.1<=cs.length/\i.2.length<=out.length+i.1/\VE i.2 (cs.drop i.1)=VE out cs) (fun i=>cs.length-i.1) (0,out) ⟨z1q _,by simp,rfl⟩ ?_;rintro⟨m,q⟩ ⟨J,K,u⟩;simp only at J K u⊢;rcases z1w m cs.length with o|o
  .conv=>whnf
   repeat' ((first|(refine gX ?_;intros)|(refine QB (QJ q (cs[m]'o)) (.cons (.hd rfl (by simp)) (.cons (.p (Sub.refl _)) .nil)) (by rintro _ rfl;rfl) ?_;rintro _ rfl)|refine pS ?_|((first|apply bD|apply bN)<;>intro _<;>try omega))<;>conv=>whnf)
   .exact nX (m+1,q) ⟨by simp only;omega,by simp only;omega,by simp only;rw[<-u,Xo o,if_pos (by assumption)]⟩
   .exact ⟨(m+1,q++[cs[m]]),⟨by simp only;omega,by simp;omega,by simp only;rw[<-u,Xo o,if_neg (by simp[*])]⟩,by simp only;omega,Le.of_eq (by simp only[z0e,z1v];rfl)⟩
  .rw [z1b o,VE]at u;subst u;have O:out.length<=(VE out cs).length:=by rw[a];simp
   conv=>whnf
   repeat' ((first|refine wI ?_|(apply bD<;>intro _<;>try omega))<;>conv=>whnf)
   exact nX (j+1,VE out cs) ⟨by simp only;omega,y,z,t⟩
 .have Q:j=out.length:=by omega
  have r:UM p (p.A.length+1-j) j out=out:=by
   rw[show p.A.length+1-j=(p.A.length-j)+1 by omega,UM,z3u (by omega)]
  rw[r]at t;conv=>whnf
  repeat' ((first|(refine iM fun _=>?_)|(apply bD<;>intro _<;>try omega)|(refine cH rH1 0 (PL out (by omega)) ?_))<;>conv=>whnf)
  exact⟨_,.hd rfl (by simp[JW]),by unfold E8;rw[<-t];rfl⟩
mutual
theorem q7a:∀(x:X)(out:List Str),(B3 x out).length<=out.length+wX x
 | .mk op n name kids,out=>by
   rw[B3,wX];have:=Ov kids (if op=2/\(out.any fun s=>name==s)=false then out++[name]else out);split at this
   ·rename_i h;rw[if_pos h];simp at this;omega
   ·rename_i h;rw[if_neg h];omega
theorem Ov:∀(l:List X)(out:List Str),(BY l out).length<=out.length+wXs l
 |[],out=>by rw[BY];omega
 | x::r,out=>by
   have h1:=q7a x out;have h2:=Ov r (B3 x out);rw[BY,wXs];omega
end
def Gx(x:X):(QC x).length<=wX x:=by
 unfold QC;have:=q7a x [];cases EU x<;>simp at this⊢;exact this
theorem D5:∀l:List Arg,(l.flatMap KB).length<=J3 l
 |[]=>by simp
 | a::r=>by
   have h:=D5 r;have i:=Gx a.x;simp only[z2d,z0e,J3];have m:(KB a).length<=1+(QC a.x).length:=by
    unfold KB;cases a.ref<;>simp;omega
   omega
def Ay(t:S):(WW t).length<=wS t:=by
 have h:=D5 t.args;have i:=Gx t.x;rw[R8];have m:(BG t).length<=1+(QC t.x).length:=by
  unfold BG;cases(decide (t.kind≠10) && !(t.name==[]):Bool)<;>simp;omega
 unfold WW;rw[z0e];omega
def H4{b:Bool}(h:b=true):Sub (.bool b) .tt:=fun _ _ i=>by subst h;cases i;exact .tt
def Cn(p:Pg)(m:Fit p)(q:(XZ p).1=0)(n:Str)(o:n∈procsN p):aP 188 [.agg p.cells,.str n] .tt:=by
 refine sC M7 func188 ?_;conv=>whnf
 repeat' ((first|refine cP (HN p m) ?_|refine cP (VC p.A 248 (.ip [.str n]) (fun f=>f.name==n) (R4 n)) ?_|(apply bD<;>intro _<;>try omega))<;>conv=>whnf)
 have:p.A.any (fun f=>f.name==n)=true:=by
  obtain⟨f,h,i⟩:=z1z.1 o;exact z3z.2 ⟨f,h,by simp[i]⟩
 exact⟨_,.p (H4 this),rfl⟩
def By(p:Pg)(t:S):List Str:=(WW t).filter fun v=>p.C.any fun s=>v==s
def Yq(p:Pg)(n:Str):List Str:=match p.A.find? (fun f=>f.name==n)with
 |some f=>(flL f.body).flatMap (By p)
 |none=>[]
def KZ(p:Pg)(n:Str):List Str:=(E8 p n).flatMap (Yq p)
def KX(p:Pg)(n:Str):List Str:=Go.Lib.compact (KL (KZ p n))
theorem Nq{p:Pg}(m:(XZ p).1=0):∀(fuel i:Nat)(out:List Str),out.Nodup->(∀s∈out,s∈procsN p)->(UM p fuel i out).Nodup/\∀s∈UM p fuel i out,s∈procsN p
 |0,i,out,h1,h2=>by rw[UM];exact⟨h1,h2⟩
 | fuel+1,i,out,h1,h2=>by
   rw[UM];split
   .obtain ⟨n,o,_⟩:=DI (P4 p _) h1 h2 fun s h=>RE m h;exact Nq m fuel (i+1) _ n o
   .exact ⟨h1,h2⟩
def CZ(q:(XZ p).1=0){n:Str}(o:n∈procsN p):(E8 p n).length<=p.A.length/\∀s∈E8 p n,s∈procsN p:=by
 obtain⟨m,i⟩:=Nq q (p.A.length+1) 0 [n] (by simp) (by simpa using o);unfold E8;rw[JW];refine⟨?_,fun s h=>i s (Va.1 h)⟩;have:=PT m i;simpa[procsN]using this
def KG{β:Type}{f:α->List β}{l:List α}(h:j<l.length):(l.drop j).flatMap f=f l[j]++(l.drop (j+1)).flatMap f:=by
 rw[QP h,z2d]
def R3(p:Pg)(hf:Fit p)(F:(XZ p).1=0)(n:Str)(U:n∈procsN p):aP 130 [.agg p.cells,.str n] (eStrs (KX p n)):=by
 refine sC Gt func130 ?_;conv=>whnf
 obtain⟨E,hb,hns⟩:=UA F;obtain⟨hg,hpl,hcn⟩:=ZR E;repeat' ((first|(refine iM fun _=>?_)|refine cP (Cn p hf F n U) ?_|refine cP (q1a p n F U) ?_|refine cP (LC p (by omega) (by omega)) ?_)<;>conv=>whnf)
 obtain⟨H,d⟩:=CZ F U;have K:KX p n=Go.Lib.compact (KL (KZ p n)):=rfl;have g:KZ p n=(E8 p n).flatMap (Yq p):=rfl;rw[K];generalize E8 p n=ns at H d g⊢;have hnl:(ns.map AV.str).length=ns.length:=z0s _;refine lJ (fun i:Nat×List Str=>⟨[(2,.p (.ip p.cells)),(5,.p (.ip (sheetOf p).cells)),(6,.hd 0 0 i.2.length),(21,.p (eStrs ns)),(22,.p (.int .i64 (ns.map AV.str).length)),(23,.j i.1)],[(0,.own 9 1 (i.2.map .str))]⟩) (fun i=>i.1<=ns.length/\i.2.length<=4200000*i.1/\i.2++(ns.drop i.1).flatMap (Yq p)=KZ p n) (fun i=>ns.length-i.1) (0,[]) (lM [(0,.own 9 1 [])]) ⟨z1q _,by simp,by rw[g];rfl⟩ ?_;rintro⟨j,o⟩ ⟨h2,h3,z⟩;simp only at h2 h3 z⊢;rcases z1w j ns.length with D|D;rotate_left 1
 .have c:o=KZ p n:=by
   rw[z1b D]at z;simpa using z
  rw[<-c];conv=>whnf
  repeat' ((first|(apply bD<;>intro _<;>try omega)|(refine cH rH1 0 (PL o (by omega)) ?_)|(refine cH rH1 0 (DD (KL o) (by rw[JW];omega)) ?_ (ha:=(z1e (z6m (by rw[JW];rfl)) z3a))))<;>conv=>whnf)
  exact⟨_,.hd rfl (by simp),rfl⟩
 obtain⟨k,hk,Q,I,hnk⟩:=Vd (d _ (z1h D));have L:Yq p ns[j]=(flL p.A[k].body).flatMap (By p):=by unfold Yq;rw[I]
 rw[KG D,L]at z;have J:=hf.pr (z1h hk);have B:p.A[k]?=some p.A[k]:=by simp
 conv=>whnf
 repeat' ((first|(refine gX ?_;intros)|refine cP (VK _ _) ?_|refine cP (E4 p (j:=k) (f:=p.A[k]'hk) B (by omega)) ?_ (ha:=.cons (Sub.refl _) (.cons (Sub.int (by exact Q)) .nil))|(apply bD<;>intro _<;>try omega))<;>conv=>whnf)
 have y:=X1 (k:Nat) 0 (-1) 0 (QL p.A k) p.A[k].body;have u:∀m (E:m<(itL (k:Nat) 0 (-1) 0 (QL p.A k) p.A[k].body).length),wS (itL (k:Nat) 0 (-1) 0 (QL p.A k) p.A[k].body)[m].s<=21000:=fun m E=>by
  have R:(itL (k:Nat) 0 (-1) 0 (QL p.A k) p.A[k].body)[m].s∈flL p.A[k].body:=by
   rw[<-y];exact z1z.2 ⟨_,z1h E,rfl⟩
  have:=Hn _ _ R;unfold wPr at J;omega
 have O:(itL (k:Nat) 0 (-1) 0 (QL p.A k) p.A[k].body).length<=200:=by
  have:=(QK p).2.2.2.2 k p.A[k] B;rw[WA];omega
 rw[<-y]at z;generalize hits:itL (k:Nat) 0 (-1) 0 (QL p.A k) p.A[k].body=its at u O z⊢;have hil:=YV its;refine lI (fun i:Nat×List Str=>⟨[(2,.p (.ip p.cells)),(5,.p (.ip (sheetOf p).cells)),(6,.hd 0 0 i.2.length),(21,.p (eStrs ns)),(22,.p (.int .i64 (ns.map AV.str).length)),(23,.j j),(31,.p (YC its)),(32,.p (.int .i64 (its.map fun i=>AV.agg i.cells).length)),(33,.j i.1)],[(0,.own 9 1 (i.2.map .str))]⟩) (fun i=>i.1<=its.length/\i.2.length<=o.length+21000*i.1/\i.2++(((its.drop i.1).map Item.s).flatMap (By p)++(ns.drop (j+1)).flatMap (Yq p))=KZ p n) (fun i=>its.length-i.1) (0,o) ⟨z1q _,by simp,z⟩ ?_;rintro⟨m,r⟩ ⟨h6,h7,a⟩;simp only at h6 h7 a⊢;rcases z1w m its.length with x|x;rotate_left 1
 .rw [z1b x]at a;conv=>whnf
  repeat' ((first|refine wI ?_|(apply bD<;>intro _<;>try omega))<;>conv=>whnf)
  exact nX (j+1,r) ⟨by simp only;omega,by simp only;omega,by simpa using a⟩
 have hw:=u m x;have V:its[m].s.args.length<=21000:=by
  have:=R8 its[m].s;have:=HM its[m].s.args;omega
 have Y:=Ay its[m].s;rw[z2v x,z1t,z2d,z1m]at a;have M:By p its[m].s=(WW its[m].s).filter fun v=>p.C.any fun s=>v==s:=rfl;conv=>whnf
 repeat' ((first|(refine gX ?_;intros)|refine cP (Pv _ V) ?_|(apply bD<;>intro _<;>try omega))<;>conv=>whnf)
 rw[M]at a;generalize WW its[m].s=vs at Y a⊢;have hvl:(vs.map AV.str).length=vs.length:=z0s _;refine lI (fun i:Nat×List Str=>⟨[(2,.p (.ip p.cells)),(5,.p (.ip (sheetOf p).cells)),(6,.hd 0 0 i.2.length),(21,.p (eStrs ns)),(22,.p (.int .i64 (ns.map AV.str).length)),(23,.j j),(31,.p (YC its)),(32,.p (.int .i64 (its.map fun i=>AV.agg i.cells).length)),(33,.j m),(39,.p (eStrs vs)),(40,.p (.int .i64 (vs.map AV.str).length)),(41,.j i.1)],[(0,.own 9 1 (i.2.map .str))]⟩) (fun i=>i.1<=vs.length/\i.2.length<=r.length+i.1/\i.2++((vs.drop i.1).filter (fun v=>p.C.any fun s=>v==s)++(((its.drop (m+1)).map Item.s).flatMap (By p)++(ns.drop (j+1)).flatMap (Yq p)))=KZ p n) (fun i=>vs.length-i.1) (0,r) ⟨z1q _,by simp,a⟩ ?_;rintro⟨q,t⟩ ⟨h9,G,h⟩;simp only at h9 G h⊢;rcases z1w q vs.length with Z|Z
 .rw [z2v Z,z8z]at h;conv=>whnf
  repeat' ((first|refine cP (QJ _ _) ?_|(refine gX ?_;intros)|refine pS ?_|((first|apply bD|apply bB)<;>intro _<;>try omega))<;>conv=>whnf)
  .exact ⟨(q+1,t++[vs[q]]),⟨by simp only;omega,by simp;omega,by rw[if_pos (by assumption)]at h;simpa using h⟩,by simp only;omega,Le.of_eq (by simp only[z0e,z1v];rfl)⟩
  .exact nX (q+1,t) ⟨by simp only;omega,by simp only;omega,by rw[if_neg (by simp[*])]at h;exact h⟩
 .rw [z1b Z]at h;conv=>whnf
  repeat' ((first|refine wI ?_|(apply bD<;>intro _<;>try omega))<;>conv=>whnf)
  exact nX (m+1,t) ⟨by simp only;omega,by simp only;omega,by simpa using h⟩
section
variable {P:Program}{T:Tab}{N:Nat}
def GV(s:List UInt8):Value:=.string ⟨s.toArray⟩
def q2m(l:List (List UInt8×AV)):XC:=.map (l.map fun x=>(GV x.1,x.2))
def Xu{α:Type}(l:List (List UInt8×α))(k:List UInt8)(v:α):List (List UInt8×α):=
 match l with
 |[]=>[(k,v)]
 |x::r=>if k=x.1 then(x.1,v)::r else x::Xu r k v
def Sb{α:Type}(l:List (List UInt8×α))(k:List UInt8):Option α:=(l.find? fun x=>decide (k=x.1)).map (·.2)
def Hw(h:Jg es clock){e:MapEntry}(n:e.born=clock):Jg (es.push e) (clock+1):=by
 refine⟨?_,fun x i=>?_⟩
 .rw [Array.toList_push,z1v,z3v];refine⟨h.1,by simp,fun a ha b m=>?_⟩;obtain⟨x,i,rfl⟩:=z1z.1 ha;have:=h.2 x i;simp only[z1t,z5h,z0i]at m;omega
 .rw [Array.toList_push]at i;rcases z0o.1 i with i|i
  .have:=h.2 x i;omega
  .rw [z0i.1 i,n];omega
theorem N0{α β:Type}(g:α->β)(f:α->α)(h:∀x,g (f x)=g x):∀(l:List α)(j:Nat),(l.modify j f).map g=l.map g
 |[],j=>by simp
 |x::r,0=>by simp[h]
 |x::r,j+1=>by simp[N0 g f h r j]
def Wb(h:Jg es clock)(j:Nat){f:MapEntry->MapEntry}(o:∀e,(f e).born=e.born):Jg (es.modify j f) clock:=by
 have e:(es.modify j f).toList.map (·.born)=es.toList.map (·.born):=by
  rw[Array.toList_modify];exact N0 _ f o _ j
 refine⟨by rw[e];exact h.1,fun x q=>?_⟩;have i:x.born∈(es.modify j f).toList.map (·.born):=z1z.2 ⟨x,q,rfl⟩;rw[e]at i;obtain⟨y,m,n⟩:=z1z.1 i;rw[<-n];exact h.2 y m
theorem OpK.makeMap{s:St}{o:Oper}{K:St->Prop}{t:TypeId}(q:o.op=.makeMap t none)(h:NX 60 0 s fun k=>setD N s.sl o.dst (.ext k .map) fun sl=>K ⟨sl,(k,.ext (q2m []))::s.H⟩):OpK P N s o K:=by
 refine⟨fun σ β a w f Q=>?_⟩;obtain⟨k,z,h⟩:=JO h;have i:(Chunk.ext (q2m [])).holds σ (β.set k (some ⟨w.heap.size,0,0,[],z1q _⟩)) (w.alloc (.map #[] 0)) k:=
  ⟨⟨w.heap.size,0,0,[],z1q _⟩,#[],0,by simp[Lab.set],heap_alloc_new w _,⟨.nil,fun x g=>by cases g⟩,rfl,by simp⟩
 obtain⟨r,c⟩:=f.new z rfl rfl i;obtain⟨sl,y,m⟩:=r.setD (v:=.ext k .map) (u:=.map (some w.heap.size)) (.ext k .map ⟨w.heap.size,0,0,[],z1q _⟩ _ (by simp[Lab.set]) rfl) h;exact ZP (w':=w.alloc (.map #[] 0)) (by simp[execOp,q,Instr.makeMap]) ⟨σ,_,_,y,m,c⟩
def Hv(a b:List UInt8):((⟨a.toArray⟩:ByteArray)==⟨b.toArray⟩)=decide (a=b):=by
 show(a.toArray==b.toArray)=decide (a=b);by_cases h:a=b
 .subst h;simp
 .simp [h]
theorem MN{α:Type}(k:List UInt8):∀(es:List MapEntry)(l:List (List UInt8×α))(i:Nat),es.map (·.key)=l.map (fun x=>GV x.1)->
  Instr.findNow .string (GV k) es i=some (match l.findIdx? fun x=>decide (k=x.1)with
   |some j=>some (i+j,(es[j]?.map (·.val)).getD undef)
   |none=>none)
 |[],[],_,_=>rfl
 |[],_::_,_,h=>by cases h
 |_::_,[],_,h=>by cases h
 | e::es,x::l,i,h=>by
   simp only[z1t,List.cons.injEq]at h;have n:Instr.sameNow .string (GV k) e.key=some (decide (k=x.1)):=by
    rw[h.1];show some ((⟨k.toArray⟩:ByteArray)==⟨x.1.toArray⟩)=_;rw[Hv]
   rw[Instr.findNow,n,findIdx?_cons];by_cases m:k=x.1
   .simp [m]
   .simp only[m,decide_false];rw[MN k es l (i+1) h.2];cases l.findIdx? fun x=>decide (k=x.1)with
    |none=>rfl
    |some j=>simp;omega
def Jb{l:List (List UInt8×AV)}(n:es.size=(l.map fun x=>(GV x.1,x.2)).length)(o:∀(m:Nat)(x:Value×AV),(l.map fun x=>(GV x.1,x.2))[m]?=some x->∃e:MapEntry,es[m]?=some e/\e.key=x.1/\Rep σ x.2 e.val):
  es.toList.map (·.key)=l.map (fun x=>GV x.1):=by
 apply z7t;intro m;rw[z1u,z1u];cases i:l[m]?with
 | none=>
   have:es.toList[m]?=none:=by
    rw[List.getElem?_eq_none_iff]at i⊢;simp at n⊢;omega
   rw[this];rfl
 | some x=>
   obtain⟨e,q,r,_⟩:=o m (GV x.1,x.2) (by simp[i]);have h:es.toList[m]?=some e:=by simpa using q
   rw[h];simp[r]
def GI{P:Program}{t:TypeId}(h:P.underlying t=some .string)(b:Bool)(k:List UInt8)(w:World):(Instr.checkKey b 10000 t (GV k)).run P w=.ok () w:=by
 have e:Instr.checkKey b 10000 t (GV k)=Instr.checkKey b (9999+1) t (GV k):=rfl;rw[e,Instr.checkKey,Sem.run_bind,run_underlying h,Result.andThen_ok];rfl
def AF{l:List UInt8}(h:RepL σ β (.p (.str l)) v):v=GV l:=h.strV.1
def KQ{P:Program}{r:Nat}(h:w.heap[r]?=some (.map es clock)):(getObj r).run P w=.ok (.map es clock) w:=by simp[getObj,Sem.run,h]
def Q6{P:Program}{r:Nat}(o:Obj)(h:w.heap[r]?=some (.map es clock)):(setObj r o).run P w=.ok () {w with heap:=w.heap.setIfInBounds r o}:=by simp[setObj,Sem.run,h]
theorem OpK.lookup(hT:TabOK P T){s:St}{o:Oper}{K:St->Prop}{t:TypeId}{x ix:Operand}(hop:o.op=.lookup t x ix false){k:Nat}(hx:QR s.sl x=.ext k .map){l:List (List UInt8×AV)}(hg:getH s.H k=some (.ext (q2m l))){c:List UInt8}(hk:QR s.sl ix=.p (.str c)){i ik:TyI}{kt et:TypeId}(ht:T.get t=some i)(hd:i.desc=.map kt et)(htk:T.get kt=some ik)(M:ik.desc=.string){v:AV}(B:Sb l c=some v)(h:setD N s.sl o.dst (.p v) fun sl=>K ⟨sl,s.H⟩):OpK P N s o K:=by
 refine⟨fun σ β a w C Q=>?_⟩;have z:=QU C.G x;have f:=QU C.G ix;rw[hx]at z;rw[hk]at f;have Y:=AF f;generalize hxe:a.eval x=xv at z;cases z with
 | ext _ _ bi _ J L=>
   obtain rfl:xv=.map (some bi.blk):=L;obtain⟨bi',es,clock,q,hh,hbo,h1,h2⟩:=C.heap.chunks k _ (QD hg);rw[J]at q;cases q;have r:=Jb h1 h2;have hu:=hT.of ht;have u:=hT.of htk;rw[hd]at hu;rw[M]at u;obtain⟨j,hj,V⟩ : ∃j,(l.findIdx? fun x=>decide (c=x.1))=some j/\∃x,l[j]?=some x/\x.2=v:=by
    unfold Sb at B;cases O:l.find? fun x=>decide (c=x.1)with
    |none=>rw[O]at B;cases B
    | some x=>
      rw[O]at B;cases B;obtain⟨D,j,g,F,I⟩:=List.find?_eq_some_iff_getElem.1 O;refine⟨j,?_,x,by rw[z0c g,F],rfl⟩;rw[List.findIdx?_eq_some_iff_getElem];exact⟨g,by rw[F];exact D,fun i hi=>by simpa using I i hi⟩
   obtain⟨y,U,rfl⟩:=V;obtain⟨e,D,F,I⟩:=h2 j (GV y.1,y.2) (by simp[U]);have m:=MN c es.toList l 0 r;rw[hj]at m;have E:es.toList[j]?=some e:=by simpa using D
   simp only[E,z3i,z2l]at m;have A:(execOp a.eval o).run P w=.ok (.value e.val) w:=by
    have R:(Instr.findKey kt (GV c) es.toList).run P w=.ok (some (0+j,e.val)) w:=by
     unfold Instr.findKey;rw[Sem.run_bind,run_underlying u,Result.andThen_ok,m];rfl
    have Z:(Instr.lookup t (.map (some bi.blk)) (GV c) false).run P w=.ok e.val w:=by
     unfold Instr.lookup;rw[Sem.run_bind,run_underlying hu,Result.andThen_ok];simp only[Sem.run_bind,KQ hh,Result.andThen_ok,Sem.run_pure,GI u,R];rfl
    simp only[execOp,hop,hxe,Y,Sem.run_bind,Z,Result.andThen_ok];rfl
   obtain⟨sl,hK,hr'⟩:=C.setD (.p I) h;exact ZP A ⟨σ,β,_,hK,hr',Later.refl _ _ _ _⟩
def Do{l:List (List UInt8×α)}{k:List UInt8}{v:α}(h:(l.findIdx? fun x=>decide (k=x.1))=none):Xu l k v=l++[(k,v)]:=by
 induction l with
 |nil=>rfl
 | cons x r m=>
   rw[findIdx?_cons]at h;by_cases i:k=x.1
   .simp [i]at h
   .simp [i]at h;rw[Xu,if_neg i,m (by simpa using h)];rfl
def Sg{l:List (List UInt8×α)}{k:List UInt8}{v:α}(h:(l.findIdx? fun x=>decide (k=x.1))=some j):∃x,l[j]?=some x/\Xu l k v=l.set j (x.1,v):=by
 induction l generalizing j with
 |nil=>cases h
 | cons x r q=>
   rw[findIdx?_cons]at h;by_cases i:k=x.1
   .simp [i]at h;subst h;exact⟨x,rfl,by rw[Xu,if_pos i];rfl⟩
   .simp [i]at h;obtain⟨t,m,rfl⟩:=h;obtain⟨y,n,o⟩:=q m;exact⟨y,by simpa using n,by rw[Xu,if_neg i,o];rfl⟩
theorem OpK.mapUpdate(hT:TabOK P T){s:St}{o:Oper}{K:St->Prop}{t:TypeId}{x ix vx:Operand}(hop:o.op=.mapUpdate t x ix vx)(E:o.dst=none){k:Nat}(hx:QR s.sl x=.ext k .map){l:List (List UInt8×AV)}(hg:getH s.H k=some (.ext (q2m l))){f:List UInt8}(hk:QR s.sl ix=.p (.str f)){v:AV}(hvx:QR s.sl vx=.p v){i ik:TyI}{kt et:TypeId}(ht:T.get t=some i)(hd:i.desc=.map kt et)(htk:T.get kt=some ik)(hdk:ik.desc=.string)(h:Bd s.H k (.ext (q2m (Xu l f v))) fun H=>K ⟨s.sl,H⟩):OpK P N s o K:=by
 refine⟨fun σ β a w A Q=>?_⟩;have hx':=QU A.G x;have hk':=QU A.G ix;have hv':=QU A.G vx;rw[hx]at hx';rw[hk]at hk';rw[hvx]at hv';have hkv:=AF hk';generalize hxe:a.eval x=xv at hx';generalize hve:a.eval vx=vv at hv';cases hv' with
 |p hvr=>
 cases hx' with
 | ext _ _ B _ D hd'=>
   obtain rfl:xv=.map (some B.blk):=hd';obtain⟨bi',es,clock,M,hh,hbo,O,h2⟩:=A.heap.chunks k _ (QD hg);rw[D]at M;cases M;have hkeys:=Jb O h2;have hu:=hT.of ht;have I:=hT.of htk;rw[hd]at hu;rw[hdk]at I;have u:=MN f es.toList l 0 hkeys;have F:=QT hg;have hlt:=(A.heap.apart k F B D B.blk B.has_blk).2;obtain⟨es',q,hrun,hbo',hsz,hent⟩ : ∃es' q,(Instr.mapUpdate t (.map (some B.blk)) (GV f) vv).run P w=.ok () {w with heap:=w.heap.setIfInBounds B.blk (.map es' q)}/\Jg es' q/\es'.size=(Xu l f v).length/\
     ∀(m:Nat)(x:Value×AV),((Xu l f v).map fun x=>(GV x.1,x.2))[m]?=some x->∃e:MapEntry,es'[m]?=some e/\e.key=x.1/\Rep σ x.2 e.val:=by
    cases g:l.findIdx? fun x=>decide (f=x.1)with
    | none=>
      rw[g]at u;refine⟨es.push {key:=GV f,val:=vv,born:=clock},clock+1,?_,Hw hbo rfl,?_,fun m y L=>?_⟩
      .have V:(Instr.findKey kt (GV f) es.toList).run P w=.ok none w:=by
        unfold Instr.findKey;rw[Sem.run_bind,run_underlying I,Result.andThen_ok,u];rfl
       unfold Instr.mapUpdate;rw[Sem.run_bind,run_underlying hu,Result.andThen_ok];simp only[Sem.run_bind,KQ hh,Result.andThen_ok,Sem.run_pure,GI I,V,Q6 _ hh]
      .rw [Do g];simpa using O
      .rw [Do g]at L;simp only[z0s]at O;rw[z1v,z5w]at L;split at L
       .rename_i J;obtain⟨e,C,h4⟩:=h2 m y L;simp only[z0s]at J;exact⟨e,by rw[z7j,if_neg (by omega)];exact C,h4⟩
       .rename_i J;simp only[z0s]at J L;have hm0:m-l.length=0:=by
         have:=(z1k.1 L).1;simp at this;omega
        rw[hm0]at L;simp at L;subst L;exact⟨{key:=GV f,val:=vv,born:=clock},by rw[z7j,if_pos (by omega)],rfl,hvr⟩
    | some j=>
      rw[g]at u;obtain⟨y,hy1,hy2⟩:=Sg (v:=v) g;obtain⟨e,C,h4,h5⟩:=h2 j (GV y.1,y.2) (by simp[hy1]);have hky:f=y.1:=by
       obtain⟨hlt,R,_⟩:=List.findIdx?_eq_some_iff_getElem.1 g;rw[z0c hlt]at hy1;cases hy1;simpa using R
      have h3':es.toList[j]?=some e:=by simpa using C
      have hjlt:j<es.size:=(z1a.1 C).1;simp only[h3',z3i,z2l,z3m]at u;have hek:e.key=GV f:=by rw[h4,hky]
      refine⟨es.modify j fun e=>{e with key:=GV f,val:=vv},clock,?_,Wb hbo j fun _=>rfl,?_,fun m z hz=>?_⟩
      .have V:(Instr.findKey kt (GV f) es.toList).run P w=.ok (some (j,e.val)) w:=by
        unfold Instr.findKey;rw[Sem.run_bind,run_underlying I,Result.andThen_ok,u];rfl
       have hkt:(Instr.keyThatStays (((es[j]?).map (·.key)).getD (GV f)) (GV f)).run P w=.ok (GV f) w:=by
        rw[C];simp only[z3i,z2l,hek];unfold Instr.keyThatStays;have:Instr.sameBits 10000 (GV f) (GV f)=true:=by
         unfold GV;show((⟨f.toArray⟩:ByteArray)==⟨f.toArray⟩)=true;rw[Hv];simp
        rw[if_pos this];rfl
       unfold Instr.mapUpdate;rw[Sem.run_bind,run_underlying hu,Result.andThen_ok];simp only[Sem.run_bind,KQ hh,Result.andThen_ok,Sem.run_pure,GI I,V,hkt,Q6 _ hh]
      .rw [hy2];simpa using O
      .rw [hy2,z3w]at hz;by_cases J:m=j
       .subst J;rw[z3j (by simp at O⊢;omega)]at hz;cases hz;exact⟨{e with key:=GV f,val:=vv},by simp[z5u,C],by rw[hky],hvr⟩
       .rw [z3p (z5q J)]at hz;obtain⟨e',R,h7⟩:=h2 m z hz;exact⟨e',by rw[z5u,if_neg (z5q J)];exact R,h7⟩
   have hrun':(execOp a.eval o).run P w=.ok .skip {w with heap:=w.heap.setIfInBounds B.blk (.map es' q)}:=by
    simp only[execOp,hop,hxe,hkv,hve,Sem.run_bind,hrun,Result.andThen_ok];rfl
   obtain⟨H',hK,C,h4,h5⟩:=GO A.heap.nodup h;have hot:∀b,b≠B.blk->({w with heap:=w.heap.setIfInBounds B.blk (.map es' q)}:World).heap[b]?=w.heap[b]?:=fun b U=>z5z (z5q U);have Y:HRel σ β H' {w with heap:=w.heap.setIfInBounds B.blk (.map es' q)}:=by
    refine⟨fun b c U=>?_,fun j c g=>?_,by rw[C];exact A.heap.nodup,fun j g i' Z b U=>?_,fun j g j' hj'=>A.heap.inj j (C▸g) j' (C▸hj')⟩
    .obtain ⟨e,fr,R⟩:=A.heap.mem b c U;exact⟨e,fr,(hot b fun he=>by rw[he,hh]at R;cases R).trans R⟩
    .by_cases hjk:j=k
     .subst hjk;rw[h5 c g];exact⟨B,es',q,D,by simp[hlt],hbo',by simpa using hsz,hent⟩
     .have J:=h4 j c g hjk;exact(A.heap.chunks j c J).mono (Mem.le_refl σ) fun i' Z b U=>hot b fun he=>hjk (A.heap.inj j (z1z.2 ⟨_,J,rfl⟩) k F i' B Z D b U (.inl he.symm))
    .have:=A.heap.apart j (C▸g) i' Z b U;exact⟨this.1,by simpa using this.2⟩
   refine Gp hrun' ⟨σ,β,⟨s.sl,H'⟩,hK,⟨?_,?_,?_,Y⟩,Mem.le_refl σ,⟨rfl,rfl,rfl,z1l _,by simp,fun b _ hn=>hot b fun he=>hn ⟨k,F,B,D,.inl he.symm⟩⟩,fun b h0 O=>absurd h0 O,fun b ⟨j,g,r⟩=>.inl ⟨j,C▸g,r⟩,fun _ _ _=>rfl⟩
   .rw [E];exact A.size
   .rw [E];exact A.defers
   .rw [E];exact A.G
end
def XI(nm:Str)(h:List Str):List Arg->List Str->Bool
 |[],_=>true
 |a::r,seen=>bif a.ref then bif (seen.any fun s=>a.name==s)||((a.name==nm)||h.any fun s=>a.name==s)then false else XI nm h r (seen++[a.name])else XI nm h r seen
def RD(t:S)(h:List Str)(ha:t.args.length<=21000):aP 131 [.agg t.cells,eStrs h] (.bool (XI t.name h t.args [])):=by
 refine sC B6 func131 ?_;conv=>whnf
 repeat' ((refine iM fun _=>?_)<;>conv=>whnf)
 have u:(t.args.map fun a=>AV.agg a.cells).length=t.args.length:=z0s _;refine lJ (fun i:Nat×List Str=>⟨[(1,.p (eStrs h)),(2,.p (.ip t.cells)),(5,.hd 0 0 i.2.length),(9,.p (.sl (t.args.map fun a=>.agg a.cells))),(10,.p (.int .i64 (t.args.map fun a=>AV.agg a.cells).length)),(11,.j i.1)],[(0,.own 9 1 (i.2.map .str))]⟩) (fun i=>i.1<=t.args.length/\i.2.length<=i.1/\XI t.name h (t.args.drop i.1) i.2=XI t.name h t.args []) (fun i=>t.args.length-i.1) (0,[]) (lM [(0,.own 9 1 [])]) ⟨z1q _,z1l _,rfl⟩ ?_;rintro⟨j,m⟩ ⟨q,r,n⟩;simp only at q r n⊢;rcases z1w j t.args.length with o|o
 .rw [z2v o,XI]at n;conv=>whnf
  repeat' ((first|refine cP (QJ _ _) ?_|(refine gX ?_;intros)|(refine QB (QJ m (t.args[j]'o).name) (.cons (.hd rfl (by simp)) (.cons (.p (Sub.refl _)) .nil)) (by rintro _ rfl;rfl) ?_;rintro _ rfl)|refine pS ?_|((first|apply bD|apply bN|apply bB)<;>intro _<;>try omega))<;>conv=>whnf)
  all_goals first
   |exact RetK.ff (by rw[<-n];simp[*])
   |exact⟨(j+1,m++[t.args[j].name]),⟨by simp only;omega,by simp;omega,by simp only;rw[<-n];simp[*]⟩,by simp only;omega,Le.of_eq (by simp only[z0e,z1v];rfl)⟩
   |exact nX (j+1,m) ⟨by simp only;omega,by simp only;omega,by simp only;rw[<-n];simp[*]⟩
 .rw [z1b o,XI]at n;conv=>whnf
  repeat' (apply bD<;>intro _<;>first|omega|conv=>whnf)
  exact RetK.tt n.symm
def DO(p:Pg):Int×Int:=
 if(YZ p).1≠0 then(1,0)else match(WE p).find? fun t=>decide (t.kind=4) && !XI t.name (KX p t.D) t.args []with
  |some t=>(8,t.id)
  |none=>(0,0)
def q3j(h:(YZ p).1=0):(XZ p).1=0/\(WE p).find? (fun t=>decide (t.kind=4) && !JI p t)=none:=by
 unfold YZ at h;split at h
 .cases h
 .rename_i i;refine⟨by omega,?_⟩;split at h
  .cases h
  .assumption
def q7k{l:List (Str×AV)}{k:Str}{v:AV}{x:Str×AV}(h:x∈Xu l k v):x∈l\/x=(k,v):=by
 induction l with
 |nil=>rw[Xu]at h;exact .inr (by simpa using h)
 | cons y r m=>
   rw[Xu]at h;split at h
   .rename_i i;rcases z1g.1 h with h|h
    .exact .inr (by rw[h,i])
    .exact .inl (z1x _ h)
   .rcases z1g.1 h with h|h
    .exact .inl (by rw[h];exact z1j)
    .exact (m h).imp (z1x _) id
def q7j{l:List (Str×AV)}{k:Str}{v:AV}(h:s=k\/∃x∈l,x.1=s):∃x∈Xu l k v,x.1=s:=by
 induction l with
 | nil=>
   rcases h with rfl|⟨x,i,_⟩
   .exact ⟨(s,v),by rw[Xu];exact z1j,rfl⟩
   .cases i
 | cons y r o=>
   rw[Xu];split
   .rename_i q;rcases h with rfl|⟨x,i,rfl⟩
    .exact ⟨(y.1,v),z1j,q.symm⟩
    .rcases z1g.1 i with rfl|i
     .exact ⟨(x.1,v),z1j,rfl⟩
     .exact ⟨x,z1x _ i,rfl⟩
   .rcases h with rfl|⟨x,i,rfl⟩
    .obtain ⟨z,n,m⟩:=o (.inl rfl);exact⟨z,z1x _ n,m⟩
    .rcases z1g.1 i with rfl|i
     .exact ⟨x,z1j,rfl⟩
     .obtain ⟨z,n,m⟩:=o (.inr ⟨x,i,rfl⟩);exact⟨z,z1x _ n,m⟩
def x0j{l:List (Str×AV)}{g:Str->AV}(h:∀x∈l,x.2=g x.1){k:Str}(o:∃x∈l,x.1=k):Sb l k=some (g k):=by
 unfold Sb;cases i:l.find? fun x=>decide (k=x.1)with
 | none=>
   obtain⟨x,q,rfl⟩:=o;have:=z3l.1 i x q;simp at this
 | some x=>
   have n:=z3b i;have m:=z4a i;simp at m;simp[h x n,m]
def SV(p:Pg)(G:Fit p):aP 67 [.agg p.cells] (MP (DO p).1 (DO p).2):=by
 refine sC Ns func67 ?_;conv=>whnf
 repeat' ((first|refine cP (Hq p G) ?_|refine z1s rfl ?_|(apply bE<;>intro _<;>try omega))<;>conv=>whnf)
 rotate_left 1
 .have e:DO p=(1,0):=by unfold DO;rw[if_pos (by assumption)]
  exact QI (by rw[e]) (by rw[e])
 have E:(YZ p).1=0:=by assumption
 obtain⟨O,_⟩:=q3j E;obtain⟨r,hb,hns⟩:=UA O;obtain⟨hg,hpl,Y⟩:=ZR r;have hl:(p.A.map fun f=>AV.agg f.cells).length=p.A.length:=z0s _;repeat' ((first|(refine iM fun _=>?_)|refine OpK.makeMap rfl ?_)<;>conv=>whnf)
 refine lI (fun i:Nat×List (Str×AV)=>⟨[(1,.p (.ip p.cells)),(2,.ptr 1 0),(3,.ext 0 .map),(15,.p (.sl (p.A.map fun f=>.agg f.cells))),(16,.p (.int .i64 (p.A.map fun f=>AV.agg f.cells).length)),(17,.j i.1)],[(0,.ext (q2m i.2)),(1,.obj 68 [.p (.int .i64 0),.j 0])]⟩) (fun i=>i.1<=p.A.length/\(∀x∈i.2,x.2=eStrs (KX p x.1))/\∀(m:Nat)(r:m<p.A.length),m<i.1->∃x∈i.2,x.1=p.A[m].name) (fun i=>p.A.length-i.1) (0,[]) ⟨z1q _,by simp,by intro m r h;omega⟩ ?_;rintro⟨j,l⟩ ⟨V,d,B⟩;simp only at V d B⊢;rcases z1w j p.A.length with R|R
 .have K:p.A[j].name∈procsN p:=z1z.2 ⟨_,z1h R,rfl⟩;conv=>whnf
  repeat' ((first|refine cP (R3 p G O _ K) ?_|refine dA ?_|(refine gX ?_;intros)|refine OpK.mapUpdate ZI rfl rfl rfl rfl rfl rfl rfl rfl rfl rfl ?_|(apply bD<;>intro _<;>try omega))<;>conv=>whnf)
  refine nX (j+1,Xu l p.A[j].name (eStrs (KX p p.A[j].name))) ⟨by simp only;omega,fun x Q=>?_,fun m r h=>?_⟩
  .rcases q7k Q with Q|rfl
   .exact d x Q
   .rfl
  .refine q7j ?_;rcases z1w m j with z|z
   .exact .inr (B m r z)
   .obtain rfl:m=j:=by simp only at h;omega
    exact .inl rfl
 have I:∀n∈procsN p,Sb l n=some (eStrs (KX p n)):=fun n K=>x0j (g:=fun n=>eStrs (KX p n)) d (by
  obtain⟨f,o,rfl⟩:=z1z.1 K;obtain⟨m,r,rfl⟩:=List.getElem_of_mem o;exact B m r (by omega))
 clear d B;conv=>whnf
 repeat' ((first|(refine iM fun _=>?_)|refine cP (LC p (by omega) (by omega)) ?_|(apply bD<;>intro _<;>try omega))<;>conv=>whnf)
 have E:DO p=match(WE p).find? fun t=>decide (t.kind=4) && !XI t.name (KX p t.D) t.args []with
  |some t=>(8,t.id)
  |none=>(0,0):=by unfold DO;rw[if_neg (by omega)]
 have hil:=YV (sheetOf p).l;have Z:(sheetOf p).l.length<=200:=by have:=(QK p).2.2.2.1;omega
 have y:=LS (q:=fun t=>decide (t.kind=4) && !XI t.name (KX p t.D) t.args []) (sheetOf p).l;rw[GW]at y;have F:DO p=match((sheetOf p).l.find? fun it=>decide (it.s.kind=4) && !XI it.s.name (KX p it.s.D) it.s.args []).map (fun it=>it.s.id)with
  |some a=>(8,a)
  |none=>(0,0):=by
  rw[E,y];cases(WE p).find? fun t=>decide (t.kind=4) && !XI t.name (KX p t.D) t.args []<;>rfl
 rw[F];refine lI (fun k:Nat=>⟨[(2,.ptr 1 0),(3,.ext 0 .map),(33,.p (YC (sheetOf p).l)),(34,.p (.int .i64 ((sheetOf p).l.map fun i=>AV.agg i.cells).length)),(35,.j k)],[(0,.ext (q2m l)),(1,.obj 68 [.p (.int .i64 0),.j 0])]⟩) (fun k=>k<=(sheetOf p).l.length/\((sheetOf p).l.drop k).find? (fun it=>decide (it.s.kind=4) && !XI it.s.name (KX p it.s.D) it.s.args [])=(sheetOf p).l.find? fun it=>decide (it.s.kind=4) && !XI it.s.name (KX p it.s.D) it.s.args []) (fun k=>(sheetOf p).l.length-k) 0 ⟨z1q _,rfl⟩ ?_;rintro k ⟨h5,C⟩;rcases z1w k (sheetOf p).l.length with u|u;rotate_left 1
 .rw [<-C,FK u];conv=>whnf
  repeat' ((first|refine z1s rfl ?_|(apply bD<;>intro _<;>try omega))<;>conv=>whnf)
  exact QI rfl rfl
 have hw:=Nj G u;have L:(sheetOf p).l[k].s.args.length<=21000:=by
  have:=R8 (sheetOf p).l[k].s;have:=HM (sheetOf p).l[k].s.args;omega
 have M:(sheetOf p).l[k].s.kind=4->(sheetOf p).l[k].s.D∈procsN p:=fun J=>by
  have c:(sheetOf p).l[k].s∈WE p:=by
   rw[<-GW];exact z1z.2 ⟨_,z1h u,rfl⟩
  unfold WE at c;obtain⟨f,o,H⟩:=z1c.1 c;exact(Ys O o H J).1
 conv=>whnf
 repeat' ((first|refine cP (RD _ _ L) ?_|(refine gX ?_;intros)|refine OpK.lookup ZI rfl rfl rfl rfl rfl rfl rfl rfl (I _ (M (by omega))) ?_|((first|apply bD|apply bN)<;>intro _<;>try omega))<;>conv=>whnf)
 all_goals first
  | (have U:=FG (p:=fun it:Item=>decide (it.s.kind=4) && !XI it.s.name (KX p it.s.D) it.s.args []) u (by simp[*])
     rw[<-C,U];exact QI rfl rfl)
  |exact nX (k+1) ⟨by omega,by rw[<-C,MM (p:=fun it:Item=>decide (it.s.kind=4) && !XI it.s.name (KX p it.s.D) it.s.args []) u (by simp[*])]⟩
def q9d(p:Pg):Int×Int:=
 if UG p=false then(1,0)else
 if(XZ p).1≠0 then XZ p else
 if(YZ p).1≠0 then YZ p else
 if(X3 p).1≠0 then X3 p else DO p
def IH(p:Pg)(h:Fit p):aP 30 [.agg p.cells] (MP (q9d p).1 (q9d p).2):=by
 refine sC Sn func30 ?_;conv=>whnf
 repeat' ((first|refine cP (AR _) ?_|refine cP (HN p h) ?_|refine cP (Hq p h) ?_|refine cP (Ei p h) ?_|refine cP (SV p h) ?_|refine z1s rfl ?_|((first|apply bD|apply bN)<;>intro _<;>try omega))<;>conv=>whnf)
 all_goals exact QI (by unfold q9d;simp[*]) (by unfold q9d;simp[*])
def QM(p:Pg):Bool:=decide ((q9d p).1=0)
def RO(p:Pg)(h:Fit p):aP 7 [.agg p.cells] (.bool (QM p)):=by
 refine sC Sm func7 ?_;conv=>whnf
 repeat' (refine cP (IH p h) ?_;conv=>whnf)
 exact RetK.bool rfl
def QS(x:Int):Int:=if x = -1 then 9223372036854775807 else x
def Tx(x:Int):aP 96 [.int .i64 x] (.int .i64 (QS x)):=by
 refine sC Sl func96 ?_;conv=>whnf
 repeat' (apply bD<;>intro _<;>first|omega|conv=>whnf)
 all_goals exact RetK.int (by unfold QS;simp[*])
def Bq(x:Int):aP 163 [.int .i64 x] (.bool false):=by
 refine sC K3 func163 ?_;conv=>whnf
 skip
 exact RetK.bool (by simp)
def Rk(x y:Int):Int:=if x<y then -1 else if y<x then 1 else 0
def NQ(x y:Int):aP 95 [.int .i64 x,.int .i64 y] (.int .i64 (Rk x y)):=by
 refine sC Ze func95 ?_;conv=>whnf
 repeat' ((first|refine cP (Bq _) ?_|((first|apply bD|apply bB)<;>intro _<;>try omega))<;>conv=>whnf)
 all_goals first
  |contradiction
  |exact RetK.int (by unfold Rk;simp[*])
  |exact RetK.int (by unfold Rk;rw[if_neg (by assumption),if_pos (by omega)])
  |exact RetK.int (by unfold Rk;rw[if_neg (by assumption),if_neg (by omega)])
def orI:List Int->Int
 |[]=>0
 |a::r=>if a=0 then orI r else a
def Hk(l:List Int):aP 94 [QG l] (.int .i64 (orI l)):=by
 refine sC Na func94 ?_;conv=>whnf
 repeat' ((refine iM fun _=>?_)<;>conv=>whnf)
 have n:(l.map (AV.int .i64)).length=l.length:=z0s _;refine lI (fun j:Nat=>⟨[(3,.j 0),(6,.p (QG l)),(7,.p (.int .i64 (l.map (AV.int .i64)).length)),(8,.j j)],[]⟩) (fun j=>j<=l.length/\orI (l.drop j)=orI l) (fun j=>l.length-j) 0 ⟨z1q _,rfl⟩ ?_;rintro j ⟨m,h⟩;rcases z1w j l.length with i|i
 .rw [z2v i,orI]at h;conv=>whnf
  repeat' ((first|(refine gX ?_;intros)|((first|apply bD|apply bE)<;>intro _<;>try omega))<;>conv=>whnf)
  all_goals first
   |exact RetK.int (by rw[<-h,if_neg (by assumption)])
   |exact nX (j+1) ⟨by omega,by rw[<-h,if_pos (by assumption)]⟩
   |exact nX (j+1) ⟨by omega,by rw[<-h,if_pos (by simp_all)]⟩
 .rw [z1b i,orI]at h;conv=>whnf
  repeat' (apply bD<;>intro _<;>first|omega|conv=>whnf)
  exact RetK.int h
def Bj(l:List S)(o:Int):Int:=match l with
 |[]=>o
 |t::_=>t.id
def O0(l:List S)(o:Int):aP 250 [.sl (l.map fun t=>.agg t.cells),.int .i64 o] (.int .i64 (Bj l o)):=by
 refine sC Ss func250 ?_;conv=>whnf
 repeat' ((first|(refine iM fun _=>?_)|(apply bD<;>intro _<;>try omega))<;>conv=>whnf)
 .cases l with
  |nil=>simp at*
  | cons t r=>
    refine IdxK.at (k:=0) rfl rfl rfl ?_;exact RetK.int rfl
 .cases l with
  |nil=>exact RetK.int rfl
  |cons t r=>simp at*
def WX(a b:Step):Bool:=decide (a.src=b.src)&&decide (a.dst=b.dst)
def Hr(a b:Step):aP 207 [.agg a.cells,.agg b.cells] (.bool (WX a b)):=by
 refine sC No func207 ?_;conv=>whnf
 repeat' (apply bD<;>intro _<;>first|omega|conv=>whnf)
 all_goals first
  |exact RetK.bool (show(a.dst==b.dst)=WX a b by unfold WX;simp[*];rfl)
  |exact RetK.ff (by unfold WX;simp[*])
def Cd(a b:Step):Int:=orI [Rk (QS a.src) (QS b.src),Rk (QS a.dst) (QS b.dst),Rk a.kind b.kind]
def SF(a b:Step):aP 205 [.agg a.cells,.agg b.cells] (.int .i64 (Cd a b)):=by
 refine sC Ni func205 ?_;conv=>whnf
 repeat' ((first|refine cP (Tx _) ?_|refine cP (NQ _ _) ?_|refine cP (Hk [Rk (QS a.src) (QS b.src),Rk (QS a.dst) (QS b.dst),Rk a.kind b.kind]) ?_|refine dA ?_|refine z1s rfl ?_|refine aD ?_|refine BsK.pureL rfl rfl ?_)<;>conv=>whnf)
 exact RetK.int rfl
end Go.Ab
