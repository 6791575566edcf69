/- LAW: the small program's givers and takers. -/
import Derived.Test.YtonbdgcjnecapaaGreatRchR9
import Derived.Test.YtonbdgcjnecapaaGreatRchR10
import Derived.Test.YtonbdgcjnecapaaGreatRchR14
import Derived.Test.YtonbdgcjnecapaaGreatRchR16
import Derived.Test.YtonbdgcjnecapaaGreatRchR18
import Derived.Test.YtonbdgcjnecapaaGreatRchR19
import Derived.Test.YtonbdgcjnecapaaGreatRchR20
import Derived.Test.YtonbdgcjnecapaaGreatRchR22
import Derived.Test.YtonbdgcjnecapaaGreatRchR23
set_option linter.all false
set_option maxRecDepth 100000
set_option maxHeartbeats 16000000
namespace Go.Ab
open Go.Proofs.Tryz
open Go.Proofs
variable {a:Nat}{nm:Str}
theorem Z1{G i:Nat->List Str}:∀{n:Nat},(∀a,a<n->G a=i a)->prsG G n=prsG i n
 |0,_=>rfl
 |n+1,h=>by rw[DD,DD,h n (Nat.lt_succ_self n),Z1 fun a ha=>h a (Nat.lt_succ_of_lt ha)]
def sG0:List (List Str):=[[],[vS],[L4,vS],[],[],[]]
def sG1:List (List Str):=[[xS,yS],[yS],[],[],[q1u],[]]
def Iz:∀a,a<6->UE someP 0 f0 a=sG0.getD a []:=fun a ha=>by
 unfold UE;rw[<-some_book.eq];unfold SJ
 match a,ha with
 |0,_=>exact Fe (by kernel_rfl)
 |1,_=>rw[if_neg (by decide),if_neg (by decide),IR];rfl
 |2,_=>rw[if_neg (by decide),if_neg (by decide),IR];rfl
 |3,_=>rw[if_neg (by decide),if_neg (by decide),IR];rfl
 |4,_=>rw[if_neg (by decide),if_neg (by decide),IR];rfl
 |5,_=>rfl
 |a+6,h=>omega
def Iw:∀a,a<6->UE someP 1 f1 a=sG1.getD a []:=fun a ha=>by
 unfold UE;rw[<-some_book.eq];unfold SJ
 match a,ha with
 |0,_=>exact Fe (by kernel_rfl)
 |1,_=>rw[if_neg (by decide),if_neg (by decide),q8d];rfl
 |2,_=>rw[if_neg (by decide),if_neg (by decide),q8d];rfl
 |3,_=>rw[if_neg (by decide),if_neg (by decide),q8d];rfl
 |4,_=>rw[if_neg (by decide),if_neg (by decide),q8d];rfl
 |5,_=>rfl
 |a+6,h=>omega
def Cn:PY someP [112]=(6,4):=by
 have e:JM someP [112]=1:=by kernel_rfl
 have e2:prA someP 1=f1:=rfl;unfold PY;rw[e,if_pos ⟨Dt,by decide⟩];show(((cntL (prA someP 1).body+2:Nat):Int),(((prsG (UE someP 1 (prA someP 1)) (cntL (prA someP 1).body+2)).length:Nat):Int))=(6,4);rw[e2,show cntL f1.body+2=6 by kernel_rfl,Z1 Iw]
 kernel_rfl
def x0i(nx:List (List Int))(gen kill:List (List Wd))(f:Nat)(X:List Int):List Int:=X++(List.range nx.length).flatMap fun a=>bif bitW (gen.getD a []) f||(X.contains (a:Int) && !bitW (kill.getD a []) f)then nx.getD a []else []
def SB(nx:List (List Int))(gen kill:List (List Wd))(f:Nat):Nat->List Int
 |0=>[]
 |k+1=>x0i nx gen kill f (SB nx gen kill f k)
def Ax(nx:List (List Int))(gen kill:List (List Wd))(f:Nat)(X:List Int):Bool:=(List.range nx.length).all fun a=> !(bitW (gen.getD a []) f||(X.contains (a:Int) && !bitW (kill.getD a []) f))||(nx.getD a []).all fun b=>X.contains b
theorem NM{nx:List (List Int)}{gen kill:List (List Wd)}{f:Nat}:∀(k:Nat){c:Int},c∈SB nx gen kill f k->SolP nx gen kill f c
 |0,c,h=>by cases h
 | k+1,c,h=>by
   rw[SB,x0i]at h;rcases x7b.1 h with h|h
   .exact NM k h
   .obtain ⟨a,ha,hc⟩:=x8h.1 h;cases i:bitW (gen.getD a []) f||((SB nx gen kill f k).contains (a:Int) && !bitW (kill.getD a []) f)with
    |false=>rw[i]at hc;cases hc
    | true=>
      rw[i,x7c]at hc;rw[z1y,x7i,x9r]at i;rcases i with i|⟨l,m⟩
      .exact .gen (a:=(a:Int)) (z2s _) (by rw[z0h];exact i) (by rw[z0h];exact hc)
      .exact .go (a:=(a:Int)) (z2s _) (NM k (by simpa using l)) (by rw[z0h];exact m) (by rw[z0h];exact hc)
def SP{nx:List (List Int)}{gen kill:List (List Wd)}{f:Nat}{X:List Int}(s:Ax nx gen kill f X=true){c:Int}(h:SolP nx gen kill f c):c∈X:=by
 have key:∀{a b:Int},0<=a->b∈nx.getD a.toNat []->(bitW (gen.getD a.toNat []) f||(X.contains a && !bitW (kill.getD a.toNat []) f))=true->b∈X:=fun {a b} l i t=>by
  have hlt:a.toNat<nx.length:=by
   rw[x7w]at i;cases o:nx[a.toNat]?with
   |none=>rw[o]at i;cases i
   |some r=>exact(x7h.1 o).1
  have m:=x8a.1 s a.toNat (x8n.2 hlt);rw[show((a.toNat:Nat):Int)=a by omega,t]at m;have q:=x8a.1 (by simpa using m:((nx.getD a.toNat []).all fun b=>X.contains b)=true) b i;simpa using q
 induction h with
 |gen l h i=>exact key l i (by rw[h];rfl)
 |go l _ hk i u=>exact key l i (by rw[hk,show X.contains _=true by simpa using u];simp)
def RO{n:Nat}{steps:List (Int×Int)}{at_:List Nat}(k:Nat)(i:((List.range at_.length).all fun f=>Ax (QL n steps).1 ((gnC n at_ at_.length).map (HP (at_.length/64+1))) ((klC n at_ at_.length).map (HP (at_.length/64+1))) f (SB (QL n steps).1 ((gnC n at_ at_.length).map (HP (at_.length/64+1))) ((klC n at_ at_.length).map (HP (at_.length/64+1))) f k))=true):
  comC n steps at_=(List.range n).map fun(c:Nat)=>((List.range at_.length).filter fun f=>(SB (QL n steps).1 ((gnC n at_ at_.length).map (HP (at_.length/64+1))) ((klC n at_ at_.length).map (HP (at_.length/64+1))) f k).contains (c:Int)).map Int.ofNat:=by
 unfold comC;refine z2f fun c _=>?_;congr 1;refine List.filter_congr fun f l=>?_;rw[z3j];exact⟨fun h=>by simpa using SP (x8a.1 i f l) (@z3l _ (Classical.propDecidable _) h),fun h=>@z0y _ (Classical.propDecidable _) (NM k (by simpa using h))⟩
def I9:comC 6 (YT (newWay someP 0 f0) f0) [1,2]=[[],[],[0],[1],[1],[1]]:=by
 rw[q7u,RO 6 (by kernel_rfl)]
 kernel_rfl
def Iq:comC 6 (YT (newWay someP 0 f0) f0) [2]=[[],[],[],[0],[0],[0]]:=by
 rw[q7u,RO 6 (by kernel_rfl)]
 kernel_rfl
def EW(G T:Nat->List Str)(h:Nat->Int)(n:Nat)(steps:List (Int×Int))(nm:Str):outN G T h n steps nm=Te T h n (atN G n nm) (comC n steps (atN G n nm)) nm:=rfl
theorem Xa{T l:Nat->List Str}{i:Nat->Int}{at_:List Nat}{C:List (List Int)}{nm:Str}:∀{n:Nat},(∀c,c<n->T c=l c)->Te T i n at_ C nm=Te l i n at_ C nm
 |0,_=>rfl
 |n+1,h=>by rw[Q4,Q4,h n (Nat.lt_succ_self n),Xa fun c hc=>h c (Nat.lt_succ_of_lt hc)]
def sT1:List (List Str):=[[],[],[vS],[vS],[L4],[q1u,L4]]
def Mf:∀a,a<6->IS someP 0 f0 a=sT1.getD a []:=fun a ha=>by
 unfold IS;rw[<-some_book.eq];unfold q3i
 match a,ha with
 |0,_=>rfl
 |1,_=>rw[if_neg (by decide),if_neg (by decide),IR];rfl
 |2,_=>rw[if_neg (by decide),if_neg (by decide),IR];rfl
 |3,_=>rw[if_neg (by decide),if_neg (by decide),IR];rfl
 |4,_=>rw[if_neg (by decide),if_neg (by decide),IR];rfl
 |5,_=>exact Fe (by kernel_rfl)
 |a+6,h=>omega
def Jy:prsG (UE someP 0 f0) 6=[(vS,1),(L4,2),(vS,2)]:=by
 rw[Z1 Iz]
 kernel_rfl
def Iu:outN (UE someP 0 f0) (IS someP 0 f0) (fun c=>QT someP 0 (6:Nat) c) 6 (YT (newWay someP 0 f0) f0) vS=[⟨1,2,vS⟩,⟨2,3,vS⟩]:=by
 have e:atN (UE someP 0 f0) 6 vS=[1,2]:=by unfold atN;rw[Jy];kernel_rfl
 rw[EW,e,I9,Xa Mf];rfl
def Iv:outN (UE someP 0 f0) (IS someP 0 f0) (fun c=>QT someP 0 (6:Nat) c) 6 (YT (newWay someP 0 f0) f0) L4=[⟨2,4,L4⟩,⟨2,-1,L4⟩]:=by
 have e:atN (UE someP 0 f0) 6 L4=[2]:=by unfold atN;rw[Jy];kernel_rfl
 rw[EW,e,Iq,Xa Mf];rfl
def q7v{l l':List Fl}(m:l.Perm l')(o:l'.Pairwise fun x y=>¬ltF y x)(i:∀s∈l,okFl s):JX l=l':=by
 rw[Md m i];unfold JX;refine List.mergeSort_of_pairwise (o.imp fun h=>?_);rw[<-Ud]at h;simpa using h
def sFl:List Fl:=[⟨1,2,vS⟩,⟨2,3,vS⟩,⟨2,4,L4⟩,⟨2,-1,L4⟩]
def Ro:YI someP 0 f0=sFl:=by
 have l:cntL f0.body+2=6:=by kernel_rfl
 unfold YI;rw[l,Jy,show(mapG [(vS,1),(L4,2),(vS,2)]).map Prod.fst=[vS,L4] by kernel_rfl,x9v,x9v,z3i,x9q];rw[Iu,Iv];refine q7v (.refl _) ((show sFl.Pairwise (fun x y=>¬flC y x<0)from by decide).imp fun h=>by rw[<-Ud];exact h) fun s i=>?_;have i:s∈sFl:=i;unfold sFl at i;simp only[x7f,z2m,or_false]at i;rcases i with rfl|rfl|rfl|rfl<;>exact⟨by decide,by decide,by decide⟩
def Hz:YE someP mainS=sFl:=by
 have e:JM someP mainS=0:=by kernel_rfl
 unfold YE;rw[e,if_pos ⟨Dt,by decide⟩];exact Ro
def Ix:Fd someP 3 vS=[2]:=by
 unfold Fd;rw[if_pos ⟨Dt,by decide,by rw[show(sheetOf someP).l.length=8 by kernel_rfl];decide⟩,show(Ff someP 3).2.1=mainS by kernel_rfl,Hz];rfl
def ZE:SpecP prog 10 [] (fun r=>r=.tt):=by
 have i:=Rp someP Ds [112];rw[Cn]at i;have l:=TD someP Ds mainS;rw[Hz]at l;have m:=Cv someP Ds 3 vS;rw[Ix]at m;have o:=PU [2] [2];have h:(sFl.map Za)[0]?=some (.agg (Fl.mk 1 2 vS).cells):=rfl;refine sB KE func10 rfl call10 ?_;conv=>whnf
 repeat' (first|((first|(refine iM fun _=>?_)|refine x7g rfl ?_|refine aD ?_|refine bP ?_|refine cP Zv ?_|refine cP i ?_|refine cP l ?_|refine cP m ?_|refine cP o ?_|(refine IdxK.at (k:=0) rfl h rfl ?_));conv=>whnf)|(apply bD<;>intro _<;>first|omega|conv=>whnf))
 all_goals first
  |contradiction
  |exact⟨_,.p (Lb rfl),rfl⟩
  |exact⟨_,.p (Sub.refl _),rfl⟩
def Gr{p:Pg}{i n:Nat}{b:Nat}(ha:a<n)(m:b<n)(h:QT p i n a=QT p i n b):a=b:=by
 unfold QT loI at h;have l:(0:Int)<=(QP p.A i:Nat):=z2s _;split at h<;>split at h<;>(try split at h)<;>(try split at h)<;>omega
section
variable {F:List (List Str)->List (List Str)}{n:Nat}{L O:List (List Str)}
end
section
variable {p:Pg}
end
section
variable {p:Pg}{j:Nat}{f:Pr}
end
def q9m{p:Pg}(hc:chkB p=true)(i:Nat)(f:Pr)(a:Nat):(UE p i f a).Nodup:=by
 refine UL (N8 (fun d h=>?_) a);rw[(UF hc).N]at h;obtain⟨it,_,rfl⟩:=x7d.1 h;exact ZF _
def Pp{p:Pg}(hc:chkB p=true){k:Nat}{f:Pr}(hk:p.A[k]?=some f)(o:a≠0)(q:a<cntL f.body+1):
  QT p k (cntL f.body+2:Nat) a=(QP p.A k+a:Nat)/\WJ p (QP p.A k+a:Nat)=(QK p).N.getD (QP p.A k+a-1) []/\JA p (QP p.A k+a:Nat)=(QK p).O.getD (QP p.A k+a-1) []:=by
 obtain⟨_,_,_,i,m⟩:=QU p;obtain⟨_,_,l,_⟩:=m _ _ hk;have h:((QP p.A k+a:Nat):Int)-1=(QP p.A k+a-1:Nat):=by omega
 refine⟨?_,?_,?_⟩
 .unfold QT loI;rw[if_neg (by omega),if_neg (by omega)];omega
 .unfold WJ;rw[if_pos ⟨hc,by omega,by omega⟩,h];rfl
 .unfold JA;rw[if_pos ⟨hc,by omega,by omega⟩,h];rfl
def q9n{p:Pg}(hc:chkB p=true){k:Nat}{f:Pr}(hk:p.A[k]?=some f)(ha:a<cntL f.body+2)(h:nm∈UE p k f a):
  (a=0/\nm∈x2d p f.name++f.C.map Param.name)\/(a≠0/\a<cntL f.body+1/\(newWay p k f).live.getD a false=true/\nm∈WJ p (QP p.A k+a:Nat)):=by
 unfold UE SJ at h;split at h
 .rename_i i;refine .inl ⟨i,?_⟩;rw[(q6l hc hk).2.2];exact ZQ.1 h
 .rename_i i;split at h
  .cases h
  .rename_i m;cases l:(newWay p k f).live.getD a false with
   |false=>rw[l]at h;cases h
   | true=>
     rw[l]at h;exact .inr ⟨i,by omega,rfl,by rw[(Pp hc hk i (by omega)).2.1];exact h⟩
def OS(l:List (Str×Nat)){k:Str}(h:(k,a)∈l):k∈(mapG l).map Prod.fst:=by
 have key:∀l:List (Str×Nat),(k,a)∈l->k∈(mapG l.reverse).map Prod.fst:=fun l=>by
  induction l with
  |nil=>intro h;cases h
  | cons x r i=>
    intro h;rw[z3m,GY];unfold Dy;rw[Qk];rcases x7f.1 h with h|h
    .subst h;split
     .assumption
     .exact x8s _ (x7y.2 rfl)
    .have:=i h;split
     .exact this
     .exact x8t _ this
 have:=key l.reverse (List.mem_reverse.2 h)
 rwa[z2o]at this
section
variable {n:Nat}{at_:List Nat}
theorem q3q(hnd:at_.Nodup)(hlt:∀a∈at_,a<n):∀k,k<=at_.length->∀(a:Nat)(g:Nat),(g:Int)∈(gnC n at_ k).getD a []↔g<k/\at_[g]?=some a
 | 0,_,a,g=>by
   rw[gnC];constructor
   .intro h;rw[x7w,x8g]at h;split at h<;>cases h
   .intro h;exact absurd h.1 (by omega)
 | k+1,hk,a,g=>by
   have i:k<at_.length:=by omega
   have e:at_.getD k 0=at_[k]:=by rw[x7w,x7x i];rfl
   rw[gnC,e,ZJ (by rw[DQ];exact hlt _ (x7l i))];split
   .rename_i h;rw[x7y];constructor
    .intro m;obtain rfl:g=k:=by omega
     exact⟨by omega,by rw[x7x i,h]⟩
    .rintro ⟨m,l⟩;obtain⟨q,o⟩:=x7h.1 l;have:g=k:=(List.getElem_inj hnd).1 (o.trans h.symm);omega
   .rename_i h;rw[q3q hnd hlt k (by omega) a g];refine⟨fun⟨m,l⟩=>⟨by omega,l⟩,fun⟨m,l⟩=>⟨?_,l⟩⟩;refine Nat.lt_of_le_of_ne (by omega) fun e2=>h ?_;subst e2;rw[x7x i]at l;exact z0m l
def O5{m g:Nat}:(g:Int)∈MO m↔g<m:=by
 unfold MO;rw[x7d];constructor
 .rintro ⟨x,l,i⟩;have:=x8n.1 l;have:(x:Int)=g:=i;omega
 .exact fun h=>⟨g,x8n.2 h,rfl⟩
theorem q3y(hlt:∀a∈at_,a<n){g:Nat}(l:g<at_.length):∀k,k<=at_.length->∀a:Nat,(g:Int)∈(klC n at_ k).getD a []↔a∈at_.take k
 | 0,_,a=>by
   rw[klC];constructor
   .intro h;rw[x7w,x8g]at h;split at h<;>cases h
   .intro h;simp at h
 | k+1,hk,a=>by
   have i:k<at_.length:=by omega
   have e:at_.getD k 0=at_[k]:=by rw[x7w,x7x i];rfl
   rw[klC,e,ZJ (by rw[DY];exact hlt _ (x7l i)),x7r i,x7b,x7y];split
   .rename_i h;exact⟨fun _=>.inr h.symm,fun _=>O5.2 l⟩
   .rename_i h;rw[q3y hlt l k (by omega) a];exact⟨.inl,fun m=>m.resolve_right fun e2=>h e2.symm⟩
def q4i(n:Nat)(steps:List (Int×Int))(at_:List Nat)(f:Nat)(c:Int):Prop:=SolP (QL n steps).1 ((gnC n at_ at_.length).map (HP (at_.length/64+1))) ((klC n at_ at_.length).map (HP (at_.length/64+1))) f c
def EL{l:List (List Int)}{m:Nat}(h:∀r∈l,r.length<=5000/\∀f∈r,0<=f/\f<(m:Nat)){f:Nat}:bitW ((l.map (HP (m/64+1))).getD a []) f=decide ((f:Int)∈l.getD a []):=by
 rw[x7w,x7k,x7w];cases q:l[a]?with
 |none=>simp[bitW]
 | some r=>
   refine Ou (fun g o=>?_) f;have i:=(h r (x7t q)).2 g o;exact⟨i.1,Nat.lt_succ_of_le (Nat.div_le_div_right (by omega))⟩
open Classical in
def T0{steps:List (Int×Int)}{f c:Nat}(hc:c<n):(f:Int)∈(comC n steps at_).getD c []↔f<at_.length/\q4i n steps at_ f c:=by
 have e:(comC n steps at_)[c]?=some ((comC n steps at_)[c]'(by rw[Fz];exact hc)):=x7x _;rw[x7w,e,x9u];unfold comC;rw[z1h,z3g,x7d];constructor
 .rintro ⟨x,m,l⟩;obtain⟨h,i⟩:=x8d.1 m;obtain rfl:x=f:=by have:(x:Int)=f:=l;omega
  exact⟨x8n.1 h,z3l i⟩
 .exact fun⟨h,i⟩=>⟨f,x8d.2 ⟨x8n.2 h,z0y i⟩,rfl⟩
variable {steps:List (Int×Int)}(hnd:at_.Nodup)(hlt : ∀ a∈at_,a<n)(hm:at_.length<=5000)
include hnd hlt hm
def q9l{f:Nat}:bitW (((gnC n at_ at_.length).map (HP (at_.length/64+1))).getD a []) f=true↔at_[f]?=some a:=by
 rw[EL (OV n at_ hm _ (x7s _)),z2v,q3q hnd hlt _ (x7s _)];exact⟨fun h=>h.2,fun h=>⟨(x7h.1 h).1,h⟩⟩
omit hnd in
def x0q{a f:Nat}(h:f<at_.length):bitW (((klC n at_ at_.length).map (HP (at_.length/64+1))).getD a []) f=true↔a∈at_:=by
 rw[EL (OE n at_ hm _),z2v,q3y hlt h _ (x7s _),z3q]
theorem q4o{f:Nat}{c:Int}(h:at_[f]?=some a)(i:((a:Int),c)∈steps)(hc:0<=c/\c<n):q4i n steps at_ f c:=by
 have ha:=hlt a (x7t h);refine .gen (a:=a) (by omega) ((q9l hnd hlt hm).2 h) ?_;have:=(Xh (n:=n) (l:=steps) (x:=a) (y:=c)).2 ⟨i,DW (by omega),DW hc⟩;exact this.2
omit hnd in
def q8a{f:Nat}(m:f<at_.length){a c:Int}(h:q4i n steps at_ f a)(ha:0<=a/\a<n)(o:a.toNat∉at_)(q:(a,c)∈steps)(hc:0<=c/\c<n):q4i n steps at_ f c:=by
 refine .go (a:=a) ha.1 h ?_ ((Xh (n:=n) (l:=steps) (x:=a) (y:=c)).2 ⟨q,DW ha,DW hc⟩).2;rw[z2a];exact fun i=>o ((x0q hlt hm m).1 i)
end
section
variable {p:Pg}{k:Nat}{f:Pr}(hc:chkB p=true)(hk:p.A[k]? = some f)
include hc hk
theorem q8r(nm:Str):(atN (UE p k f) (cntL f.body+2) nm).Nodup/\(∀a∈atN (UE p k f) (cntL f.body+2) nm,a<cntL f.body+2)/\(atN (UE p k f) (cntL f.body+2) nm).length<=5000/\∀a,a∈atN (UE p k f) (cntL f.body+2) nm↔a<cntL f.body+2/\nm∈UE p k f a:=by
 have h:=q9m hc k f;have l:=(XQ hc).2.2;have i:=KZ _ _ (x7t hk);rw[RL h];refine⟨List.nodup_range.filter _,fun a ha=>x8n.1 (x8d.1 ha).1,x8m (x9n _ _) (by rw[x9t];omega),fun a=>?_⟩;rw[x8d,x8n,z2v]
theorem Oo{c:Nat}(ha:a<cntL f.body+2)(i:c<cntL f.body+2):(⟨QT p k (cntL f.body+2:Nat) a,QT p k (cntL f.body+2:Nat) c,nm⟩:Fl)∈YI p k f ↔
  nm∈IS p k f c/\∃g,(atN (UE p k f) (cntL f.body+2) nm)[g]?=some a/\q4i (cntL f.body+2) (YT (newWay p k f) f) (atN (UE p k f) (cntL f.body+2) nm) g c:=by
 obtain⟨_,hlt,_,q⟩:=q8r hc hk nm;unfold YI JX;rw[(z2d _ _).mem_iff,x8h];constructor
 ·rintro⟨b,_,h⟩;unfold outN at h;obtain⟨c',m,h⟩:=x8h.1 h;obtain⟨x,v,h⟩:=x8h.1 h;have m:=x8n.1 m;split at h
  ·rename_i t;have h:=x7y.1 h;obtain rfl:nm=b:=x9l Fl.var h;have e2:QT p k (cntL f.body+2:Nat) c=QT p k (cntL f.body+2:Nat) c':=x9l Fl.dst h;obtain rfl:=Gr i m e2;have r:((comC (cntL f.body+2) (YT (newWay p k f) f) (atN (UE p k f) (cntL f.body+2) nm)).getD c [])∈comC (cntL f.body+2) (YT (newWay p k f) f) (atN (UE p k f) (cntL f.body+2) nm):=by
    rw[x7w,x7x (by rw[Fz];exact i)];exact x7l _
   have y:=(Fw r).2 x v;obtain⟨g,rfl⟩:=Int.eq_ofNat_of_zero_le y.1;have l:g<(atN (UE p k f) (cntL f.body+2) nm).length:=by omega
   have o:=((T0 i).1 v).2;have u:QT p k (cntL f.body+2:Nat) a=_:=x9l Fl.src h;have w:(atN (UE p k f) (cntL f.body+2) nm).getD ((g:Nat):Int).toNat 0=(atN (UE p k f) (cntL f.body+2) nm)[g]:=by
    rw[z0h,x7w,x7x l];rfl
   rw[w]at u;refine⟨UN.1 t,g,?_,o⟩;rw[x7x l,Gr ha (hlt _ (x7l l)) u]
  ·cases h
 ·rintro⟨t,g,s,o⟩;obtain⟨l,z⟩:=x7h.1 s;refine⟨nm,?_,?_⟩
  ·have:=(q a).1 (x7t s);refine OS _ (a:=a) ?_;unfold prsG;exact x8h.2 ⟨a,x8n.2 ha,x7d.2 ⟨nm,this.2,rfl⟩⟩
  ·unfold outN;refine x8h.2 ⟨c,x8n.2 i,x8h.2 ⟨(g:Nat),(T0 i).2 ⟨l,o⟩,?_⟩⟩;rw[if_pos (UN.2 t),z0h,x7w,s];exact x7y.2 rfl
end
section
variable {p:Pg}{k:Nat}{f:Pr}(hc:chkB p=true)(hk:p.A[k]? = some f)
include hc hk
theorem AO{t:S}(m:t∈flL f.body):plP p k f t.id/\t.id=(QP p.A k+(ixI p k f t.id).toNat:Nat)/\(ixI p k f t.id).toNat≠0/\(ixI p k f t.id).toNat<cntL f.body+1:=by
 have l:=ZS (QY hc).1 hk m;have i:plP p k f t.id:=.inr (.inr l);have o:=WS i;have h:=BP i;unfold QT loI at h;split at h
 ·omega
 split at h
 ·omega
 ·exact⟨i,by omega,by omega,by omega⟩
theorem q5d{t:S}(r:t∈flL f.body)(o:Rch (wR p k f) 0 t.id)(h:nm∈WJ p t.id):nm∈UE p k f (ixI p k f t.id).toNat:=by
 obtain⟨q,l,i,m⟩:=AO hc hk r;rw[l,(Pp hc hk i m).2.1]at h;unfold UE SJ;rw[if_neg i,if_neg (by omega),(Tb hc hk q).2 o];exact h
theorem q7g{t:S}(r:t∈flL f.body)(o:Rch (wR p k f) 0 t.id)(h:nm∈JA p t.id):nm∈IS p k f (ixI p k f t.id).toNat:=by
 obtain⟨q,l,i,m⟩:=AO hc hk r;rw[l,(Pp hc hk i m).2.2]at h;unfold IS q3i;rw[if_neg (by omega),if_neg i,(Tb hc hk q).2 o];exact h
theorem Li{t:S}(o:t∈flL f.body):WJ p t.id=FJ (dfB p (QK p).Q) t.id/\JA p t.id=FJ (usB p (QK p).ins) t.id:=by
 obtain⟨_,h,i,l⟩:=AO hc hk o;generalize(ixI p k f t.id).toNat=m at*
 have e:(t.id-1).toNat=QP p.A k+m-1:=by omega
 refine⟨?_,?_⟩
 ·rw[<-(UF hc).N];unfold FJ;rw[e,h,(Pp hc hk i l).2.1]
 ·rw[<-(UF hc).O];unfold FJ;rw[e,h,(Pp hc hk i l).2.2]
omit hc hk in
theorem Fg:ixI p k f 0=0:=by
 have i:=WS (p:=p) (j:=k) (f:=f) (x:=0) (.inl rfl);have h:=BP (p:=p) (j:=k) (f:=f) (x:=0) (.inl rfl);unfold QT loI at h;split at h
 ·assumption
 split at h
 ·omega
 ·omega
def q2j{t:S}(r:t∈flL f.body){v:Str}(h:v∈JA p t.id)(y:FK p f v≠4):comB p v=true\/v∈f.C.map Param.name:=by
 have l:=x7t hk;have o:v∈XF t->comB p v=true\/v∈f.C.map Param.name:=fun o=>by
  have i:=VA (QY hc).2.1 l r;unfold knownB at i;rw[x7i]at i;have x:=x8a.1 i.1 v o;rcases D2 (by simpa using x)with q|q
  .exact .inl (LY.2 (.inr q))
  .rcases x7b.1 q with m|m
   .exact .inr m
   .exfalso;refine y ?_;have hnd:=(((J9 (QY hc).1).1 (QY hc).2.1).2 f l).nd;unfold allV at hnd;rw[x9k]at hnd;have u:(f.C.map Param.name++f.F).Nodup:=hnd.2.1;rw[x9k]at u;unfold FK;cases w:f.C.find? (fun a=>a.name==v)with
    | some a=>
      exfalso;exact u.2.2 a.name (z1q (z0g w)) v m (by simpa using z1j w)
    | none=>
      have:f.F.any (fun s=>v==s)=true:=x8e.2 ⟨v,m,x9o v⟩;simp only[this];rfl
 rw[(Li hc hk r).2,x4i hc hk r,ZQ]at h;have hH:v∈S6 t->comB p v=true\/v∈f.C.map Param.name:=fun h=>by
  unfold S6 at h;rcases x7b.1 h with h|h
  .refine o ?_;unfold XF KU;exact x8t _ (x8s _ h)
  .split at h
   .exact .inl (LY.2 (.inl (x7y.1 h)))
   .cases h
 unfold MZ at h;split at h
 .rcases x7b.1 h with h|h
  .rcases x7b.1 h with h|h
   .exact hH h
   .obtain ⟨a,ha,h⟩:=x8h.1 h;exact o (Ox ha h)
  .rw [q5r]at h;exact .inl ((Lr hc).2.sub _ _ h)
 .exact hH h
def x1k{a b:Int}(h:wR p k f a b):dR p k f a b:=(Ay hc hk).2 (.inl h)
end
def x0f{b:Bool}{s:S}(h:okC s/\s.id ≠ -1):okC (onS b s)/\(onS b s).id ≠ -1:=by
 have i:∀l:List Str,l.length<=1000000->(if b then l else []).length<=1000000:=fun l i=>by
  split
  .exact i
  .simp
 rw[PD];split
 .refine ⟨⟨by show wX (.mk 1 7 [] [])<=21000;rw[wX,wXs];omega,i _ h.1.2.1,by show([]:List Arg).length<=1000000;simp,fun a ha=>by cases ha⟩,by show(0:Int) ≠ -1;decide⟩
 .exact ⟨⟨h.1.1,i _ h.1.2.1,h.1.2.2.1,h.1.2.2.2⟩,h.2⟩
def Ec(b:Bool)(s:S):(onS b s).L=onL b s.L/\(onS b s).M=onL b s.M:=by
 rw[PD];split<;>exact⟨rfl,rfl⟩
mutual
theorem x0d{b:Bool}:∀(s:S),(∀t∈flS s,okC t/\t.id ≠ -1)->∀t∈flS (onS b s),okC t/\t.id ≠ -1
 | .mk id kind G name D x has args L M,h,t,ht=>by
   obtain⟨h1,h2⟩:=Ec b (.mk id kind G name D x has args L M);rw[G2,h1,h2]at ht;rcases x7f.1 ht with rfl|ht
   ·exact x0f (h _ (by rw[flS];exact x7v))
   ·rcases x7b.1 ht with ht|ht
    ·exact Tc L (fun u hu=>h u (by rw[flS];exact x7j _ (x7b.2 (.inl hu)))) t ht
    ·exact Tc M (fun u hu=>h u (by rw[flS];exact x7j _ (x7b.2 (.inr hu)))) t ht
theorem Tc{b:Bool}:∀(l:List S),(∀t∈flL l,okC t/\t.id ≠ -1)->∀t∈flL (onL b l),okC t/\t.id ≠ -1
 |[],h,t,ht=>by rw[onL,flL]at ht;cases ht
 | s::r,h,t,ht=>by
   rw[onL,flL]at ht;rcases x7b.1 ht with ht|ht
   ·exact x0d s (fun u hu=>h u (by rw[flL];exact x7b.2 (.inl hu))) t ht
   ·exact Tc r (fun u hu=>h u (by rw[flL];exact x7b.2 (.inr hu))) t ht
end
def q8o{p:Pg}(y:Fit p)(hc:chkB p=true):CopyF p:=by
 obtain⟨u,v,w⟩:=q7k y hc;have x:=(XQ hc).2.2;refine⟨u,v,fun f h=>?_⟩;obtain⟨o,q,r,_,s⟩:=w f h;have b:=KZ _ _ h;obtain⟨j,z,l⟩:=x9s.1 h;have i:p.A[j]?=some f:=by rw[x7x z,l]
 exact⟨o,q,r,by omega,fun t m=>⟨s t m,by have:=(ZS (QY hc).1 i m).1;omega⟩⟩
def Au{p:Pg}{b:Bool}(s:Fit p)(hc:chkB p=true){f:Pr}(hm:p.A.filter (fun f=>f.name==mainS)=[f]):CopyF (onlyRaw b p)/\cntP (onlyRaw b p).A<=100000:=by
 have i:=q8o s hc;have h:f∈p.A:=(x8d.1 (by rw[hm];exact x7v)).1;obtain⟨l,m,o,q,r⟩:=i.pr f h;have e:onlyRaw b p=⟨p.B,[q8k b f]⟩:=by
  unfold onlyRaw;rw[hm];rfl
 rw[e];refine⟨⟨by simp,i.B,fun g t=>?_⟩,?_⟩
 .rcases x7y.1 t with rfl;refine⟨l,?_,o,?_,Tc f.body r⟩
  .show (if b then f.fin else []).length<=1000000;split
   .exact m
   .simp
  .show cntL (onL b f.body)<=100000;rw[HX];exact q
 .show cntL (onL b f.body)+0<=100000;rw[HX];omega
structure OnT(s t:S):Prop where
 G:t.G=s.G
 off:s.kind=4->t.kind=3/\t.name=[]/\t.x=.mk 1 7 [] []/\t.args=[]
 on:s.kind≠4->t.kind=s.kind/\t.name=s.name/\t.x=s.x/\t.args=s.args
def Xs(s:S)(n:Nat):OnT s (nmS n (onS true s)):=by
 by_cases hk:s.kind=4
 .have e:=(PD true s).trans (if_pos (.inl hk));rw[e,Gl];exact⟨rfl,fun _=>⟨rfl,rfl,rfl,rfl⟩,fun h=>absurd hk h⟩
 .have e:=(PD true s).trans (if_neg (fun h=>h.elim hk fun h=>by cases h.2));rw[e,Gl];exact⟨rfl,fun h=>absurd h hk,fun _=>⟨rfl,rfl,rfl,rfl⟩⟩
theorem OnT.nocall{s t:S}(h:OnT s t):t.kind≠4:=by
 by_cases hk:s.kind=4
 .have:=(h.off hk).1;omega
 .have:=(h.on hk).1;omega
theorem OnT.k6{s t:S}(h:OnT s t):t.kind=6↔s.kind=6:=by
 by_cases hk:s.kind=4
 .have:=(h.off hk).1;omega
 .have:=(h.on hk).1;omega
def Yo(s:S)(n:Nat):(nmS n (onS true s)).L=nmL (n+1) (onL true s.L)/\(nmS n (onS true s)).M=nmL (n+1+cntL s.L) (onL true s.M)/\(nmS n (onS true s)).id=((n+1:Nat):Int):=by
 obtain⟨h,i⟩:=Ec true s;rw[Gl,h,i,HX];exact⟨rfl,rfl,rfl⟩
mutual
theorem q9i:∀(s:S)(k n m:Nat)(pr pr' up up' nx nx' lp lp':Int),(lp'=0↔lp=0)->∀it'∈itS pr' up' nx' lp' m (nmS k (onS true s)),∃it∈itS pr up nx lp n s,OnT it.s it'.s/\(it'.loop=0↔it.loop=0)
 | .mk id kind G name D x has args L M,k,n,m,pr,pr',up,up',nx,nx',lp,lp',hl,it',h=>by
   obtain⟨h1,h2,_⟩:=Yo (.mk id kind G name D x has args L M) k;have hO:=Xs (.mk id kind G name D x has args L M) k;have h6:=hO.k6;have hlp:(if(nmS k (onS true (.mk id kind G name D x has args L M))).kind=6 then(m:Int)+1 else lp')=0↔(if kind=6 then(n:Int)+1 else lp)=0:=by
    have h6:_↔kind=6:=h6;by_cases hk:kind=6
    ·rw[if_pos hk,if_pos (h6.2 hk)];omega
    ·rw[if_neg hk,if_neg (fun h=>hk (h6.1 h))];exact hl
   rw[q9e,h1,h2]at h;rw[itS];rcases x7f.1 h with rfl|h
   ·exact⟨_,x7v,hO,hl⟩
   ·rcases x7b.1 h with h|h
    ·obtain⟨it,a,b⟩:=Ng L _ (n+1) _ pr _ (n+1) _ (if kind=6 then n+1 else nx) _ _ _ hlp it' h;exact⟨it,x7j _ (x7b.2 (.inl a)),b⟩
    ·obtain⟨it,a,b⟩:=Ng M _ (n+1+cntL L) _ pr _ (n+1) _ (if kind=6 then n+1 else nx) _ _ _ hlp it' h;exact⟨it,x7j _ (x7b.2 (.inr a)),b⟩
theorem Ng:∀(l:List S)(k n m:Nat)(pr pr' up up' nx nx' lp lp':Int),(lp'=0↔lp=0)->∀it'∈itL pr' up' nx' lp' m (nmL k (onL true l)),∃it∈itL pr up nx lp n l,OnT it.s it'.s/\(it'.loop=0↔it.loop=0)
 |[],k,n,m,pr,pr',up,up',nx,nx',lp,lp',hl,it',h=>by rw[onL,nmL,itL]at h;cases h
 | s::r,k,n,m,pr,pr',up,up',nx,nx',lp,lp',hl,it',h=>by
   rw[onL,nmL,itL]at h;rw[itL];rcases x7b.1 h with h|h
   ·obtain⟨it,a,b⟩:=q9i s k n m pr pr' up up' (if r.isEmpty then nx else n+1+ZU s) _ lp lp' hl it' h;exact⟨it,x7b.2 (.inl a),b⟩
   ·obtain⟨it,a,b⟩:=Ng r _ (n+ZU s) _ pr pr' up up' nx nx' lp lp' hl it' h;exact⟨it,x7b.2 (.inr a),b⟩
end
mutual
theorem q6q:∀(s:S)(k:Nat),(flS (nmS k (onS true s))).map S.G=(flS s).map S.G
 | .mk id kind G name D x has args L M,k=>by
   obtain⟨h1,h2,_⟩:=Yo (.mk id kind G name D x has args L M) k;have hO:=(Xs (.mk id kind G name D x has args L M) k).G;have h1:_=nmL (k+1) (onL true L):=h1;have h2:_=nmL (k+1+cntL L) (onL true M):=h2;rw[G2,h1,h2,flS,x8v,x8v,x7n,x7n,D3 L,D3 M,hO]
theorem D3:∀(l:List S)(k:Nat),(flL (nmL k (onL true l))).map S.G=(flL l).map S.G
 |[],k=>by rw[onL,nmL]
 |s::r,k=>by rw[onL,nmL,flL,flL,x7n,x7n,q6q s,D3 r]
end
def CO{f:Pr}{l:Str}:(atB f l).2=true↔l∈Rz f:=by
 unfold atB Rz;rw[x7b,x8h];cases h:(flL f.body).find? fun t=>t.G.any fun s=>l==s with
 | some t=>
   refine⟨fun _=>.inl ⟨t,z0g h,?_⟩,fun _=>rfl⟩;exact D8.1 (z1j (p:=fun t:S=>t.G.any fun s=>l==s) h)
 | none=>
   have i:¬∃t,t∈flL f.body/\l∈t.G:=fun⟨t,m,o⟩=>by
    have:=z0t.1 h t m;exact this (D8.2 o)
   simp only[i,false_or];cases hc:f.fin.any fun s=>l==s with
   |true=>exact⟨fun _=>D8.1 hc,fun _=>rfl⟩
   | false=>
     refine⟨fun h=>(by cases h),fun h=>?_⟩;rw[D8.2 h]at hc;cases hc
def Cq{s:S}(h:oneOk s=true)(n:Nat):ZM (nmS n (onS true s))=true:=by
 have m:=Yi h;obtain⟨o,q,_⟩:=Yo s n;by_cases hk:s.kind=4
 .have u:s.L=[]:=x9y (by rcases m.L with h|h|h<;>omega);have r:s.M=[]:=x9y (by rcases m.M with h|h<;>omega);have e:=(PD true s).trans (if_pos (.inl hk));rw[e,Gl,u,r];rfl
 .have t:ZM s=true:=by
   unfold oneOk at h;exact(Bool.and_eq_true_iff.1 h).1
  have e:=(PD true s).trans (if_neg (fun h=>h.elim hk fun h=>by cases h.2));have i:(nmS n (onS true s)).L.length=s.L.length:=by rw[o,Xt,NA,x7z]
  have l:(nmS n (onS true s)).M.length=s.M.length:=by rw[q,Xt,NA,x7z]
  have e2:ZM (nmS n (onS true s))=ZM s:=by
   unfold ZM;rw[i,l];rw[e,Gl];rfl
  rw[e2,t]
mutual
theorem q1h:∀(s:S){nest seen m:Int}(n:Nat),Df nest seen s=some m->n+ZU s<=200->Df nest n (nmS n (onS true s))=some ((n+ZU s:Nat):Int)
 | .mk id kind G name D x has args L M,nest,seen,m,n,h,hn=>by
   obtain⟨h1,_,m1,h3,h4⟩:=BM h;obtain⟨e1,e2,e3⟩:=Yo (.mk id kind G name D x has args L M) n;have hc:ZU (.mk id kind G name D x has args L M)=1+cntL L+cntL M:=by rw[ZU]
   rw[hc]at hn;have q1:=Vk L (n+1) h3 (by omega);have q2:=Vk M (n+1+cntL L) h4 (by omega);have hlb:=(Yi h1).G;rw[Rl,if_neg (by omega),if_neg (by rw[e3];omega),(Xs _ n).G,hlb,Cq h1,e1,e2];show(bif true then bif true then(match UR (nest+1) ((n:Int)+1) (nmL (n+1) (onL true L))with|some m=>UR (nest+1) m (nmL (n+1+cntL L) (onL true M))|none=>none)else none else none)=_;rw[show((n:Int)+1)=((n+1:Nat):Int) by omega,q1];show UR (nest+1) ((n+1+cntL L:Nat):Int) _=_;rw[q2,hc];congr 2;omega
theorem Vk:∀(l:List S){nest seen m:Int}(n:Nat),UR nest seen l=some m->n+cntL l<=200->UR nest n (nmL n (onL true l))=some ((n+cntL l:Nat):Int)
 |[],nest,seen,m,n,h,hn=>by rw[onL,nmL,UR,cntL];rfl
 | s::r,nest,seen,m,n,h,hn=>by
   obtain⟨h1,m1,h2,h3⟩:=GF h;have hc:cntL (s::r)=ZU s+cntL r:=by rw[cntL]
   rw[hc]at hn;have q1:=q1h s n h2 (by omega);have q2:=Vk r (n+ZU s) h3 (by omega);rw[onL,nmL,UR,if_neg (by omega),q1,Lc];show UR nest ((n+ZU s:Nat):Int) _=_;rw[q2,hc];congr 2;omega
end
section
variable {p:Pg}{k:Nat}{f:Pr}
def Em{t:S}(i:t∈flL (gOf true f).body):∃s∈flL f.body,OnT s t:=by
 rw[<-BI 0 0 (-1) 0 0 (gOf true f).body]at i;obtain⟨h,l,rfl⟩:=x7d.1 i;obtain⟨it,m,o,_⟩:=Ng f.body 0 0 0 0 0 0 0 (-1) (-1) 0 0 Iff.rfl h l;exact⟨it.s,by rw[<-BI 0 0 (-1) 0 0 f.body];exact z1q m,o⟩
def x2t:cntL (gOf true f).body=cntL f.body:=by
 show cntL (nmL 0 (onL true f.body))=_;rw[Fx,HX]
def q3b:Rz (gOf true f)=Rz f:=by
 unfold Rz;show(flL (nmL 0 (onL true f.body))).flatMap S.G++f.fin=_;rw[List.flatMap_def,List.flatMap_def,D3]
def q6h{s t:S}(h:OnT s t){v:Str}(i:v∈XF t):v∈XF s:=by
 by_cases hk:s.kind=4
 .obtain ⟨l,m,o,q⟩:=h.off hk;unfold XF KU at i;rw[l,m,o,q]at i;exact absurd i (by
   have:XP (.mk 1 7 [] [])=[]:=rfl;rw[this];simp)
 .obtain ⟨l,m,o,q⟩:=h.on hk;unfold XF KU at i⊢
  rwa[l,m,o,q]at i
def x2c(h:chkB p=true)(c:p.A[k]?=some f):KR ⟨p.B,[gOf true f]⟩=true:=by
 obtain⟨hm,_⟩:=QY h;obtain⟨u,d,v,w⟩:=BD hm;obtain⟨_,_,z⟩:=XQ h;have i:f∈p.A:=x7t c;obtain⟨x,a,b,y⟩:=w f i;have hc:=KZ _ _ i;have q:=Vk f.body (nest:=1) 0 y (by omega);obtain⟨g1,l,m,o,r,s⟩:=YV.1 x;have t:DJ (gOf true f)=true:=YV.2 ⟨g1,l,m,o,r,s⟩;have e:XL 0 [gOf true f]=some ((0+cntL f.body:Nat):Int):=by
  rw[XL,t,x7c,show(gOf true f).body=nmL 0 (onL true f.body)from rfl];rw[show UR 1 0 (nmL 0 (onL true f.body))=some ((0+cntL f.body:Nat):Int)from q];rfl
 unfold KR;simp only;rw[e,v];simp[u]
def Ts{t:S}(h:t∈VD ⟨p.B,[gOf true f]⟩):t.kind≠4:=by
 unfold VD at h;simp only[x9v,z3i,x9q]at h;obtain⟨s,_,i⟩:=Em h;exact i.nocall
def x2r(h:chkB p=true)(D:p.A[k]?=some f)(N:f.name=mainS)(Z:f.C=[]):chkB ⟨p.B,[gOf true f]⟩=true:=by
 obtain⟨hm,P,ha,E,V⟩:=QY h;have K:=x2c h D;obtain⟨d,M⟩:=(J9 hm).1 P;have i:f∈p.A:=x7t D;have e:ZD p.B=false:=by
  unfold XI at d;rw[z1l]at d;exact d.1
 have H:XI ⟨p.B,[gOf true f]⟩=false:=by
  unfold XI procsN;simp only[x8v,z2q];rw[e,show(gOf true f).name=mainS from N];rw[show([gOf true f].find? fun f=>mainS==f.name)=some (gOf true f) by
   rw[z2y,show(mainS==(gOf true f).name)=true by rw[show(gOf true f).name=mainS from N];simp]]
  simp only;rw[show(gOf true f).C=[]from Z];rfl
 have m:(QI ⟨p.B,[gOf true f]⟩).1=0:=(J9 K).2 ⟨H,fun g l=>by
  rcases x7y.1 l with rfl;refine⟨(M f i).nd,fun t y=>?_⟩;obtain⟨s,I,x⟩:=Em y;have r:=(M f i).kn s I;unfold knownB at r⊢;rw[x7i]at r⊢;refine⟨?_,by rw[z0y x.nocall];rfl⟩;rw[x8a];intro v hv;exact x8a.1 r.1 v (q6h x hv)⟩
 have w:(VZ ⟨p.B,[gOf true f]⟩).1=0:=(Pz m).2 fun t y o=>absurd o (Ts y);have G:(BO ⟨p.B,[gOf true f]⟩).1=0:=(Tg m).2 fun j g l=>by
  obtain⟨R,T⟩:=(Tg P).1 E k f D
  match j,l with
  | 0,l=>
    obtain rfl:gOf true f=g:=by simpa using l
    refine⟨fun z Y=>?_,by rw[q3b];exact T⟩;obtain⟨it,r,o,U⟩:=Ng f.body 0 (QP p.A k) _ (k:Nat) _ 0 0 (-1) (-1) 0 0 Iff.rfl z Y;have q:=R it r;unfold VS at q⊢;by_cases J:it.s.kind=4
    .have:=(o.off J).1;rw[if_neg (by omega),if_neg (by omega)]
    .obtain ⟨Q,e2,_⟩:=o.on J;rw[Q,e2];split
     .rename_i b;rw[if_pos b]at q;have c:¬it.loop=0:=by simpa using q
      have:¬z.loop=0:=fun h=>c (U.1 h);simpa using this
     .rename_i b;rw[if_neg b]at q;split
      .rename_i c;rw[if_pos c]at q;exact CO.2 (by rw[q3b];exact CO.1 q)
      .rfl
  |j+1,l=>simp at l
 have u:(GZ ⟨p.B,[gOf true f]⟩).1=0:=(CA w).2 fun t y o=>absurd o (Ts y);exact q4s.2 ⟨K,m,w,G,u⟩
end
mutual
theorem x1j:∀(s:S)(n:Nat),wS (nmS n (onS true s))<=wS s
 | .mk id kind G name D x has args L M,n=>by
   have h1:=S9 L (n+1);have h2:=S9 M (n+1+cntL L);have h3:=q4w x;obtain⟨e1,e2,_⟩:=Yo (.mk id kind G name D x has args L M) n;have e1:_=nmL (n+1) (onL true L):=e1;have e2:_=nmL (n+1+cntL L) (onL true M):=e2;rw[RJ,e1,e2,(Xs _ n).G,wS];by_cases hk:kind=4
   ·obtain⟨_,_,k3,k4⟩:=(Xs (.mk id kind G name D x has args L M) n).off hk;rw[k3,k4,wX,wXs,PV];simp only[S.G];omega
   ·obtain⟨_,_,k3,k4⟩:=(Xs (.mk id kind G name D x has args L M) n).on hk;rw[k3,k4];simp only[S.G,S.x,S.args];omega
theorem S9:∀(l:List S)(n:Nat),wL (nmL n (onL true l))<=wL l
 |[],n=>by rw[onL,nmL];exact x7s _
 | s::r,n=>by
   have h1:=x1j s n;have h2:=S9 r (n+ZU s);rw[onL,nmL,wL,wL,Lc];omega
end
def x2s{p:Pg}(m:Fit p){f:Pr}(h:f∈p.A):Fit ⟨p.B,[gOf true f]⟩:=by
 have i:=RY h;have l:=S9 f.body 0;unfold Fit wPg at*
 simp only[q7i];have e:wPr (gOf true f)=1+CV f.F+CV f.fin+q7e f.C+wL (nmL 0 (onL true f.body)):=rfl;rw[e];unfold wPr at i;omega
structure OnlyF(p q:Pg)(g:Pr):Prop where
 only:onlyPg true p=q
 chk:chkB q=true
 fit:Fit q
 A:q.A=[g]
 way:wayO q mainS=some (newWay q 0 g)
 nocall:∀u∈flL g.body,u.kind≠4
 cnt:cntL g.body<=cntP p.A
 copy:CopyF p
 raw:CopyF (onlyRaw true p)/\cntP (onlyRaw true p).A<=100000
 pos:0<p.A.length
def C9{p:Pg}(i:Fit p)(hc:chkB p=true):∃(q:Pg) (g:Pr),OnlyF p q g:=by
 obtain⟨k,f,hk,hm,l,o⟩:=D6 hc;have h:f∈p.A:=x7t hk;have m:=x2r hc hk l o;refine⟨⟨p.B,[gOf true f]⟩,gOf true f,q6d hm,m,x2s i h,rfl,?_,fun u t=>?_,by rw[x2t];exact KZ _ _ h,q8o i hc,Au i hc hm,by have:=(x7h.1 hk).1;omega⟩
 .unfold wayO;rw[m,x7c];have e:((gOf true f).name==mainS)=true:=by rw[show(gOf true f).name=mainS from l];simp
  simp only[z2y,e,List.findIdx_cons,x7c]
 .obtain ⟨s,_,r⟩:=Em t;exact r.nocall
theorem OnlyF.at0{p q:Pg}{g:Pr}(h:OnlyF p q g):q.A[0]?=some g:=by rw[h.A];rfl
def w64(n:Int):Int:=IntKind.wrap .i64 n
def A3(b:Bool):Int:=bif b then 1 else 0
def IM(op a:Int):Int×Bool:=if op=3 then(w64 (0-a),true)else if op=4 then(A3 (a==0),true)else(0,false)
def x1p(op a b:Int):Int×Bool:=if b=0 then(0,false)else if b = -1 then(if op=7 then(0,true)else if a = -9223372036854775808 then(a,true)else(w64 (0-a),true))else if op=7 then(a.tmod b,true)else(w64 (a.tdiv b),true)
def x1b(op a b:Int):Int×Bool:=if op=10 then(A3 (decide (a<b)),true)else if op=11 then(A3 (decide (a<=b)),true)else if op=12 then(A3 (decide (a>b)),true)else if op=13 then(A3 (decide (a≥b)),true)else if op=14 then(A3 (a==b),true)else if op=15 then(A3 (a != b),true)else(0,false)
def x1w(op a b:Int):Int×Bool:=if op=8 then(w64 (a+b),true)else if op=9 then(w64 (a-b),true)else if op=5 then(w64 (a*b),true)else if op=6\/op=7 then x1p op a b else if op=16 then(A3 (a != 0&&b != 0),true)else if op=17 then(A3 (a != 0||b != 0),true)else x1b op a b
def q2r(r:Int×Bool):AV:=.tup [.int .i64 r.1,.bool r.2]
def QM{H:Heap}{a:Int}{x:AV}{r:Int×Bool}(h:a=r.1)(i:Sub x (.bool r.2)):RetK H (.p (.tup [.int .i64 a,x])) (fun y=>y=q2r r):=RetK.tup2 h i
def BS(b:Bool):SpecP prog 327 [.bool b] (fun r=>r=.int .i64 (A3 b)):=by
 refine sB Sf func327 rfl call327 ?_;conv=>whnf
 repeat' (apply bB<;>intro _<;>conv=>whnf)
 all_goals exact RetK.int (by simp_all[A3])
def Ci(a:Int):SpecP prog 303 [.int .i64 a] (fun r=>r=.bool (a != 0)):=by
 refine sB P0 func303 rfl call303 ?_;conv=>whnf
 skip
 all_goals exact RetK.bool rfl
def q2f(op a:Int):SpecP prog 302 [.int .i64 op,.int .i64 a] (fun r=>r=q2r (IM op a)):=by
 refine sB Sg func302 rfl call302 ?_;conv=>whnf
 repeat' (first|((first|refine cP (BS _) ?_|refine Wr.wrap ?_);conv=>whnf)|(apply bD<;>intro _<;>first|omega|conv=>whnf))
 all_goals first
  |exact QM (by unfold IM;rw[if_pos (by assumption)];rfl) (Sub.tt (by unfold IM;rw[if_pos (by assumption)]))
  |exact QM (by unfold IM;rw[if_neg (by assumption),if_pos (by assumption)]) (Sub.tt (by unfold IM;rw[if_neg (by assumption),if_pos (by assumption)]))
  |exact QM (by unfold IM;rw[if_neg (by assumption),if_neg (by assumption)]) (Sub.ff (by unfold IM;rw[if_neg (by assumption),if_neg (by assumption)]))
def RH(op a b:Int):SpecP prog 328 [.int .i64 op,.int .i64 a,.int .i64 b] (fun r=>r=q2r (x1p op a b)):=by
 refine sB F6 func328 rfl call328 ?_;conv=>whnf
 unfold x1p;by_cases i:b=0
 .rw [if_pos i];repeat' (apply bD<;>intro _<;>first|omega|conv=>whnf)
  all_goals exact QM rfl (Sub.ff rfl)
 rw[if_neg i];by_cases l:b = -1
 .rw [if_pos l];by_cases h:op=7
  .rw [if_pos h];repeat' (apply bD<;>intro _<;>first|omega|conv=>whnf)
   all_goals exact QM rfl (Sub.tt rfl)
  rw[if_neg h];by_cases hm:a = -9223372036854775808
  .rw [if_pos hm];repeat' (apply bD<;>intro _<;>first|omega|conv=>whnf)
   all_goals exact QM rfl (Sub.tt rfl)
  rw[if_neg hm];repeat' (first|(refine Wr.wrap ?_;conv=>whnf)|(apply bD<;>intro _<;>first|omega|conv=>whnf))
  all_goals exact QM rfl (Sub.tt rfl)
 rw[if_neg l];by_cases h:op=7
 .rw [if_pos h];repeat' (first|(refine x7g i ?_;conv=>whnf)|(apply bD<;>intro _<;>first|omega|conv=>whnf))
  all_goals exact QM rfl (Sub.tt rfl)
 rw[if_neg h];repeat' (first|((first|refine x7g i ?_|refine Wr.wrap ?_);conv=>whnf)|(apply bD<;>intro _<;>first|omega|conv=>whnf))
 all_goals exact QM rfl (Sub.tt rfl)
def L2(op a b:Int):SpecP prog 329 [.int .i64 op,.int .i64 a,.int .i64 b] (fun r=>r=q2r (x1b op a b)):=by
 refine sB Je func329 rfl call329 ?_;conv=>whnf
 repeat' (first|(refine cP (BS _) ?_;conv=>whnf)|(apply bD<;>intro _<;>first|omega|conv=>whnf))
 all_goals
  unfold x1b
  (repeat' first
    |rw[if_pos (by assumption)]
    |rw[if_neg (by assumption)])
  first
   |exact QM rfl (Sub.tt rfl)
   |exact QM rfl (Sub.ff rfl)
def q2d(op a b:Int):SpecP prog 304 [.int .i64 op,.int .i64 a,.int .i64 b] (fun r=>r=q2r (x1w op a b)):=by
 refine sB Sh func304 rfl call304 ?_;conv=>whnf
 have t:=RH op a b;have s:=L2 op a b;unfold x1w;by_cases o:op=8
 .rw [if_pos o];repeat' (first|(refine Wr.wrap ?_;conv=>whnf)|(apply bD<;>intro _<;>first|omega|conv=>whnf))
  all_goals exact QM rfl (Sub.tt rfl)
 rw[if_neg o];by_cases q:op=9
 .rw [if_pos q];repeat' (first|(refine Wr.wrap ?_;conv=>whnf)|(apply bD<;>intro _<;>first|omega|conv=>whnf))
  all_goals exact QM rfl (Sub.tt rfl)
 rw[if_neg q];by_cases m:op=5
 .rw [if_pos m];repeat' (first|(refine Wr.wrap ?_;conv=>whnf)|(apply bD<;>intro _<;>first|omega|conv=>whnf))
  all_goals exact QM rfl (Sub.tt rfl)
 rw[if_neg m];by_cases l:op=6\/op=7
 .rw [if_pos l];generalize x1p op a b=d at*
  repeat' (first|(refine cP t ?_;conv=>whnf)|(apply bD<;>intro _<;>first|omega|conv=>whnf))
  all_goals first
   |exact QM rfl (Sub.refl _)
   |(exfalso;omega)
 rw[if_neg l];by_cases h:op=16
 .rw [if_pos h];repeat' (first|((first|refine cP (BS _) ?_|(refine CallK.pure (BS false) (.cons (Sub.ff rfl) .nil) ?_;rintro _ rfl));conv=>whnf)|(apply bD<;>intro _<;>first|omega|conv=>whnf)|(apply bE<;>intro _<;>first|omega|conv=>whnf))
  all_goals first
   |(exfalso;omega)
   |exact QM (by rw[show(a != 0)=true by simpa using(show ¬a=0 by assumption)];rfl) (Sub.tt rfl)
   |exact QM (by rw[show(a != 0)=false by simpa using(show a=0 by assumption)];rfl) (Sub.tt rfl)
   |exact QM (by simp_all;done) (Sub.tt rfl)
 rw[if_neg h];by_cases i:op=17
 .rw [if_pos i];repeat' (first|((first|refine cP (BS _) ?_|(refine CallK.pure (BS true) (.cons (Sub.tt rfl) .nil) ?_;rintro _ rfl));conv=>whnf)|(apply bD<;>intro _<;>first|omega|conv=>whnf)|(apply bE<;>intro _<;>first|omega|conv=>whnf))
  all_goals first
   |(exfalso;omega)
   |exact QM (by rw[show(a != 0)=true by simpa using(show ¬a=0 by assumption)];rfl) (Sub.tt rfl)
   |exact QM (by rw[show(a != 0)=false by simpa using(show a=0 by assumption)];rfl) (Sub.tt rfl)
   |exact QM (by simp_all;done) (Sub.tt rfl)
 rw[if_neg i];generalize x1b op a b=d at*
 repeat' (first|(refine cP s ?_;conv=>whnf)|(apply bD<;>intro _<;>first|omega|conv=>whnf))
 all_goals first
  |exact QM rfl (Sub.refl _)
  |(exfalso;omega)
def Jm(h:List Str)(i:List Int)(s:Str):Int:=if 0<=idxF (fun y=>s==y) h/\idxF (fun y=>s==y) h<i.length then i.getD (idxF (fun y=>s==y) h).toNat 0 else 0
def evN(h:Str->Int):Nat->X->Int×Bool
 |0,_=>(0,false)
 | n+1,x=>if x.op=1 then(x.n,true)else if x.op=2 then(h x.name,true)else match x.kids with
   |[]=>(0,false)
   |[a]=>bif (evN h n a).2 then IM x.op (evN h n a).1 else(0,false)
   |a::b::_=>bif (evN h n a).2 then(if x.op=16/\(evN h n a).1=0 then(0,true)else if x.op=17/\(evN h n a).1≠0 then(1,true)else bif (evN h n b).2 then x1w x.op (evN h n a).1 (evN h n b).1 else(0,false))else(0,false)
def evX(h:Str->Int)(x:X):Int×Bool:=bif CX x then evN h 20 x else(0,false)
def Ag{n:Nat}{x:X}(h:WY (n+1) x=true)(o:x.op≠1)(q:x.op≠2):(∃a,x.kids=[a]/\WY n a=true)\/∃a b,x.kids=[a,b]/\WY n a=true/\WY n b=true:=by
 obtain⟨l,_,i⟩:=Xx h;have hk:(x.kids.length:Int)=Wn x.op:=by
  rw[WY,x7i]at h;exact z3l h.1
 have m:0<x.kids.length:=by
  unfold Wn at hk
  (repeat' split at hk)<;>omega
 match hq:x.kids,m,l,i with
 |[a],_,_,i=>exact .inl ⟨a,rfl,i a (by simp)⟩
 |[a,b],_,_,i=>exact .inr ⟨a,b,rfl,i a (by simp),i b (by simp)⟩
 |a::b::c::r,_,l,_=>simp at l
def q5u:∀(n:Nat)(x:X)(_:WY n x=true)(i:List Str)(l:List Int),SpecP prog 265 [.agg x.cells,eStrs i,QB l] (fun r=>r=q2r (evN (Jm i l) n x)):=by
 intro n;induction n with
 |zero=>intro x h;rw[WY]at h;cases h
 | succ n B=>
   intro x K i l;have w:=XZ i x.name;have J:(l.map (AV.int .i64)).length=l.length:=x7z _;refine sB CY func265 rfl call265 ?_;conv=>whnf
   by_cases t:x.op=1
   .have e:evN (Jm i l) (n+1) x=(x.n,true):=by rw[evN,if_pos t]
    rw[e];repeat' (apply bD<;>intro _<;>first|omega|conv=>whnf)
    all_goals exact QM rfl (Sub.tt rfl)
   by_cases c:x.op=2
   .have e:evN (Jm i l) (n+1) x=(Jm i l x.name,true):=by rw[evN,if_neg t,if_pos c]
    rw[e];unfold Jm;generalize idxF (fun y=>x.name==y) i=ix at*
    by_cases D:0<=ix/\ix<l.length
    .rw [if_pos D];have I:(l.map (AV.int .i64))[ix.toNat]?=some (.int .i64 (l.getD ix.toNat 0)):=by
      rw[x7k,x7w,x7x (by omega)];rfl
     repeat' (first|((first|(refine iM fun _=>?_)|refine cP w ?_|(refine IdxK.at (k:=ix.toNat) (by omega) I rfl ?_));conv=>whnf)|(apply bD<;>intro _<;>first|omega|conv=>whnf))
     all_goals first
      |exact QM rfl (Sub.tt rfl)
      |(exfalso;omega)
    .rw [if_neg D];repeat' (first|((first|(refine iM fun _=>?_)|refine cP w ?_);conv=>whnf)|(apply bD<;>intro _<;>first|omega|conv=>whnf))
     all_goals first
      |(exfalso;omega)
      |exact QM rfl (Sub.tt rfl)
   rcases Ag K t c with⟨a,hk,ha⟩|⟨a,b,hk,ha,H⟩
   .have v:=B a ha i l;have e:evN (Jm i l) (n+1) x=bif (evN (Jm i l) n a).2 then IM x.op (evN (Jm i l) n a).1 else(0,false):=by rw[evN,if_neg t,if_neg c,hk]
    rw[e];have o:(X.avs x.kids)[0]?=some (.agg a.cells):=by rw[hk,X.avs_eq];rfl
    have A:(X.avs x.kids).length=1:=by rw[hk,X.avs_eq];rfl
    generalize evN (Jm i l) n a=ea at*
    obtain⟨m,C⟩:=ea;have d:=q2f x.op m;generalize X.avs x.kids=ks at*
    cases C;all_goals
     simp only[x7c,x7o];generalize IM x.op m=ov at*
     repeat' (first|((first|(refine iM fun _=>?_)|(refine IdxK.at (k:=0) rfl o rfl ?_)|refine cP v ?_|refine cP d ?_|refine Br.tt ?_|refine Br.ff ?_);conv=>whnf)|(apply bD<;>intro _<;>first|omega|conv=>whnf))
     all_goals first
      |contradiction
      |exact QM rfl (Sub.refl _)
      |exact QM rfl (Sub.ff rfl)
      |(exfalso;omega)
   .have v:=B a ha i l;have E:=B b H i l;have e:evN (Jm i l) (n+1) x=bif (evN (Jm i l) n a).2 then(if x.op=16/\(evN (Jm i l) n a).1=0 then(0,true)else if x.op=17/\(evN (Jm i l) n a).1≠0 then(1,true)else bif (evN (Jm i l) n b).2 then x1w x.op (evN (Jm i l) n a).1 (evN (Jm i l) n b).1 else(0,false))else(0,false):=by rw[evN,if_neg t,if_neg c,hk]
    rw[e];have o:(X.avs x.kids)[0]?=some (.agg a.cells):=by rw[hk,X.avs_eq];rfl
    have z:(X.avs x.kids)[1]?=some (.agg b.cells):=by rw[hk,X.avs_eq];rfl
    have A:(X.avs x.kids).length=2:=by rw[hk,X.avs_eq];rfl
    generalize evN (Jm i l) n a=ea at*
    generalize evN (Jm i l) n b=eb at*
    obtain⟨m,C⟩:=ea;obtain⟨G,M⟩:=eb;have d:=q2d x.op m G;have hT:=Ci m;have g:(m != 0) = !decide (m=0):=by by_cases h:m=0<;>simp[h]
    rw[g]at hT;generalize X.avs x.kids=ks at*
    generalize x1w x.op m G=ov at*
    cases C<;>cases M;all_goals
     simp only[x7c,x7o];by_cases s:x.op=16/\m=0
     .first
       |rw[if_pos s]
       |skip
      repeat' (first|((first|(refine iM fun _=>?_)|(refine IdxK.at (k:=0) rfl o rfl ?_)|(refine IdxK.at (k:=1) rfl z rfl ?_)|refine cP v ?_|refine cP E ?_|refine cP d ?_|refine cP hT ?_|refine Br.tt ?_|refine Br.ff ?_);conv=>whnf)|(apply bD<;>intro _<;>first|omega|conv=>whnf)|(apply bN<;>intro _<;>conv=>whnf))
      all_goals first
       |contradiction
       |exact QM rfl (Sub.tt rfl)
       |exact QM rfl (Sub.ff rfl)
       |(exfalso;omega)
       |(exfalso;have q:(!decide (m=0))=true:=(by assumption);simp at q;omega)
       |(exfalso;have q:(!decide (m=0))=false:=(by assumption);simp at q;omega)
     by_cases u:x.op=17/\m≠0
     .first
       |rw[if_neg s,if_pos u]
       |skip
      repeat' (first|((first|(refine iM fun _=>?_)|(refine IdxK.at (k:=0) rfl o rfl ?_)|refine cP v ?_|refine cP hT ?_|refine Br.tt ?_|refine Br.ff ?_);conv=>whnf)|(apply bD<;>intro _<;>first|omega|conv=>whnf)|(apply bE<;>intro _<;>first|omega|conv=>whnf))
      all_goals first
       |contradiction
       |exact QM rfl (Sub.tt rfl)
       |exact QM rfl (Sub.ff rfl)
       |(exfalso;omega)
       |(exfalso;have q:(!decide (m=0))=true:=(by assumption);simp at q;omega)
       |(exfalso;have q:(!decide (m=0))=false:=(by assumption);simp at q;omega)
     first
      |rw[if_neg s,if_neg u]
      |skip
     repeat' (first|((first|(refine iM fun _=>?_)|(refine IdxK.at (k:=0) rfl o rfl ?_)|(refine IdxK.at (k:=1) rfl z rfl ?_)|refine cP v ?_|refine cP E ?_|refine cP d ?_|refine cP hT ?_|refine Br.tt ?_|refine Br.ff ?_);conv=>whnf)|(apply bD<;>intro _<;>first|omega|conv=>whnf)|(apply bE<;>intro _<;>first|omega|conv=>whnf)|(apply bN<;>intro _<;>conv=>whnf))
     all_goals first
      |contradiction
      |exact QM rfl (Sub.refl _)
      |exact QM rfl (Sub.ff rfl)
      |(exfalso;omega)
      |(exfalso;have q:(!decide (m=0))=true:=(by assumption);simp at q;omega)
      |(exfalso;have q:(!decide (m=0))=false:=(by assumption);simp at q;omega)
def q5v(x:X)(h:List Str)(i:List Int):SpecP prog 207 [.agg x.cells,eStrs h,QB i] (fun r=>r=q2r (evX (Jm h i) x)):=by
 refine sB CU func207 rfl call207 ?_;conv=>whnf
 have l:=KF x;unfold evX;cases hm:CX x with
 | false=>
   rw[hm]at l;repeat' ((first|refine cP l ?_|refine Br.tt ?_);conv=>whnf)
   all_goals first
    |contradiction
    |exact QM rfl (Sub.ff rfl)
 | true=>
   have m:=q5u 20 x hm h i;rw[hm]at l;rw[x7c];generalize evN (Jm h i) 20 x=ev at*
   repeat' ((first|refine cP l ?_|refine cP m ?_|refine Br.ff ?_);conv=>whnf)
   all_goals first
    |contradiction
    |exact QM rfl (Sub.refl _)
def varsS(p:Pg)(f:Pr):List Str:=p.B++Qb f
def Cj(p:Pg)(hm:KR p=true)(k:Nat)(f:Pr)(hk:p.A[k]?=some f)(D:∀(j:Nat)(g:Pr),p.A[j]?=some g->g.name=f.name->j=k)(u:f.C.length<=1000)(v:f.F.length<=1000)(E:p.B.length<=1000):SpecP prog 135 [.agg p.cells,.str f.name] (fun r=>r=eStrs (varsS p f)):=by
 refine sB Bm func135 rfl call135 ?_;conv=>whnf
 have t:=Vp p;rw[hm]at t;have b:k<p.A.length:=(x7h.1 hk).1;have w:=My f u v;have o:SpecH prog 170 ([eStrs p.B].map .p) [] (OneRow (Kx p.B) (p.B=[])):=XR p.B (by omega);have d:(Qb f).length<=100000:=by
  unfold Qb;rw[x7u,x7z];omega
 have e:(p.A.map fun f=>AV.agg f.cells).length=p.A.length:=x7z _;have i:eStrs (varsS p f)=.sl (p.B.map AV.str++(Qb f).map AV.str):=by unfold varsS eStrs;rw[x7n]
 rw[i];repeat' ((first|(refine iM fun _=>?_)|refine cP t ?_|refine Br.ff ?_);conv=>whnf)
 all_goals first
  |contradiction
  |skip
 refine LoopK.inv QV (fun j:Nat=>⟨[(1,.p (.str f.name)),(2,.p (.ip p.cells)),(11,.p (.sl (p.A.map fun f=>.agg f.cells))),(12,.p (.int .i64 (p.A.map fun f=>AV.agg f.cells).length)),(13,.j j)],[]⟩) (fun j=>j<=k) (fun j=>k-j) 0 (Le.of_eq rfl) (x7p _) ?_;intro j G;have s:j<p.A.length:=by omega
 have l:p.A[j]?=some p.A[j]:=x7x s;rcases x7m j k with hlt|z
 .have c:(p.A[j].name==f.name)=false:=z1o.2 fun x=>by
   have:=D j _ l x;omega
  conv=>whnf
  repeat' (first|((first|refine dA ?_|refine x7g rfl ?_|(refine iA fun _=>?_)|refine wI ?_);conv=>whnf)|(apply bD<;>intro _<;>first|omega|conv=>whnf)|(apply bB<;>intro _<;>conv=>whnf))
  all_goals first
   |exact⟨j+1,by omega,by omega,Le.of_eq rfl⟩
   |(exfalso;simp_all;done)
 .obtain rfl:j=k:=by omega
  have h:p.A[j]=f:=by rw[l]at hk;exact z0m hk
  have q:SpecP prog 147 [.agg p.A[j].cells] (fun r=>r=eStrs (Qb f)):=by rw[h];exact w
  have y:(p.A[j].name==f.name)=true:=by rw[h];exact x9o _
  generalize Qb f=ol at*
  conv=>whnf
  repeat' (first|((first|refine dA ?_|refine x7g rfl ?_|refine aD ?_|(refine iA fun _=>?_)|refine wI ?_|refine cP q ?_|refine KS _ (by simp) (by simp;omega) ?_);conv=>whnf)|(apply bD<;>intro _<;>first|omega|conv=>whnf)|(apply bB<;>intro _<;>conv=>whnf)|(refine UJ 0 rfl o (.cons (.p (Sub.refl _)) .nil) (fun m=>?_) ?_;rotate_left;rintro _ _ _ _ ⟨rfl,rfl,rfl⟩;all_goals conv=>whnf))
  all_goals first
   |(exfalso;simp_all;done)
   |exact⟨_,.hd rfl (by simp),rfl⟩
   |(rw[m];exact⟨_,.hd rfl (by simp),rfl⟩)
structure Fm where
 D:Nat
 names:List Str
 F:List Nat
 call:Int
structure Mc where
 stack:List Fm
 mem:List Int
 fin:Int
 steps:Int
 reads:Int
 out:List Int
 trace:List (Int×List Int)
def UO(bs:List Nat)(vs:List Nat):List AV:=vs.map fun v=>cpA (bs.getD v 0)
def evA(e:Int×List Int):AV:=.agg [.int .i64 e.1,QB e.2]
def fmA(bs:List Nat)(f:Fm):AV:=.ip [.int .i64 f.D,eStrs f.names,.sl (UO bs f.F),.int .i64 f.call]
def ZP(bs:List Nat)(mem:List Int):List (Nat×AV):=bs.zip (mem.map (.int .i64))
def mO(p:Pg)(tape watch:List Int)(g s v:Nat)(M:Mc):Chunk:=.obj 145 [.p (.ip (sheetOf p).cells),.hd 1001 0 g,.p (QB tape),.p (QB watch),.hd 2001 0 s,.hd 2002 0 v,.p (.int .i64 M.fin),.p (.int .i64 M.steps),.p (.int .i64 M.reads),.hd 2003 0 M.out.length,.hd 2004 0 M.trace.length]
def mH(p:Pg)(tape watch:List Int)(bs:List Nat)(vs:List Int)(M:Mc):Heap:=[(1000,mO p tape watch p.B.length M.stack.length vs.length M),(1001,.own 146 1 (UO bs (List.range p.B.length))),(2001,.own 194 1 (M.stack.map (fmA bs))),(2002,.own 2 1 (vs.map (.int .i64))),
 (2003,.own 2 1 (M.out.map (.int .i64))),(2004,.own 76 2 (M.trace.map evA)),(2500,.ext (.cells 2 (ZP bs M.mem)))]
structure OkF(M:Mc)(f:Fm):Prop where
 len:f.F.length=f.names.length
 rng:∀v∈f.F,v<M.mem.length
structure OkM(p:Pg)(bs:List Nat)(M:Mc):Prop where
 bl:bs.length=M.mem.length
 fr:∀f∈M.stack,OkF M f
 gl:p.B.length<=M.mem.length
 sl:M.stack.length<=1000
 nl:∀f∈M.stack,f.names.length<=100000
def EJ{bs vs:List Nat}{i v:Nat}(h:vs[i]?=some v):(UO bs vs)[i]?=some (cpA (bs.getD v 0)):=by
 unfold UO;rw[x7k,h];rfl
def Oy{bs:List Nat}{mem:List Int}(i:bs.length=mem.length){v:Nat}(h:v<mem.length):(bs.getD v 0,AV.int .i64 (mem.getD v 0))∈ZP bs mem:=by
 unfold ZP;refine x9c.2 ⟨v,?_⟩;rw[List.getElem?_zip_eq_some];refine⟨?_,?_⟩
 .rw [x7w,x7x (by omega)];rfl
 .rw [x7k,x7x h];show some (AV.int .i64 mem[v])=some (AV.int .i64 (mem.getD v 0));rw[x7w,x7x h];rfl
def JR(p:Pg)(tape watch:List Int)(bs:List Nat)(vs:List Int)(M:Mc)(st:List Fm)(f:Fm)(i:M.stack=st++[f])(m:M.stack.length<=1000):SpecH prog 142 [.ptr 1000 0] (mH p tape watch bs vs M) (fun r H=>r=.p (fmA bs f)/\H=mH p tape watch bs vs M):=by
 refine sH X2 func142 rfl call142 ?_;conv=>whnf
 have o:M.stack.length=st.length+1:=by rw[i,x7u];rfl
 have h:(M.stack.map (fmA bs))[st.length]?=some (fmA bs f):=by rw[i,x7k,x8f (x7s _),z1a];rfl
 have l:(M.stack.map (fmA bs)).length=M.stack.length:=x7z _;repeat' ((first|(refine iM fun _=>?_)|refine dA ?_|refine x7g rfl ?_|refine wI ?_|refine x8p st.length (by omega) (by omega) ?_|refine x9g st.length 0 (fmA bs f) (by omega) h ?_);conv=>whnf)
 all_goals first
  |exact x9h _ (x8z _) ⟨rfl,rfl⟩
def WH(p:Pg)(tape watch:List Int)(bs:List Nat)(vs:List Int)(M:Mc)(st:List Fm)(f:Fm)(q:M.stack=st++[f])(o:M.stack.length<=1000)(name:Str)(i v:Nat)(m:idxF (fun y=>name==y) f.names=i)(s:f.F[i]?=some v):SpecH prog 137 [.ptr 1000 0,.p (.str name)] (mH p tape watch bs vs M) (fun r H=>r=.p (cpA (bs.getD v 0))/\H=mH p tape watch bs vs M):=by
 refine sH PE func137 rfl call137 ?_;conv=>whnf
 have hT:=JR p tape watch bs vs M st f q o;have h:=XZ f.names name;rw[m]at h;have l:=EJ (bs:=bs) s;repeat' (first|((first|refine dA ?_|refine cP h ?_|(refine IdxK.at (k:=i) rfl l rfl ?_));conv=>whnf)|(refine cH rH0 0 hT ?_;conv=>whnf))
 all_goals first
  |exact x9h _ (x8z _) ⟨rfl,rfl⟩
def QH(watch:List Int)(M:Mc)(id:Int)(h:List Int):Mc:=bif watch.any fun x=>decide (id=x)then {M with trace:=M.trace++[(id,h)]}else M
def XN(p:Pg)(tape watch:List Int)(bs:List Nat)(vs:List Int)(M:Mc)(id:Int)(h:List Int)(l:M.trace.length<=10000000):SpecH prog 139 [.ptr 1000 0,.j id,.p (QB h)] (mH p tape watch bs vs M) (fun r H=>r=.p (.tup [])/\H=mH p tape watch bs vs (QH watch M id h)):=by
 refine sH PC func139 rfl call139 ?_;conv=>whnf
 have i:=GB watch id;unfold QH;cases m:watch.any fun x=>decide (id=x);all_goals
  rw[m]at i;repeat' ((first|refine x7g rfl ?_|refine aD ?_|refine bP ?_|refine cP i ?_|refine z0w (n:=M.trace.length) (by rw[x7z]) rfl (by show(M.trace.length+1)*32<=140737488355328;omega) (by show M.trace.length+1<=9223372036854775807;omega) (fun x o=>by rcases x7y.1 o with rfl;exact⟨rfl,rfl⟩) ?_|refine Br.tt ?_|refine Br.ff ?_);conv=>whnf)
 all_goals first
  |exact x9h _ (x8z _) ⟨rfl,rfl⟩
  |exact x9h _ (x8z _) ⟨rfl,by simp only[x7c];unfold mH mO;simp only[x7u,x7n];rfl⟩
def x5a(M:Mc)(f:Fm):Str->Int:=Jm f.names (f.F.map fun v=>M.mem.getD v 0)
def QE(M:Mc)(f:Fm)(x:X):Int×Bool:=evX (x5a M f) x
def endM(M:Mc)(c:Int):Mc:={M with fin:=c}
def L3(M:Mc)(f:Fm)(x:X):Mc:=bif (QE M f x).2 then M else endM M 4
def x0x{N:Nat}{sl:List (Nat×LV)}{p:Pg}{tape watch:List Int}{bs:List Nat}{vs:List Int}{M:Mc}:
  Le N ⟨sl,[(1000,mO p tape watch p.B.length M.stack.length 0 M),(1001,.own 146 1 (UO bs (List.range p.B.length))),(2001,.own 194 1 (M.stack.map (fmA bs))),(2002,.own 2 1 (vs.map (.int .i64))),(2003,.own 2 1 (M.out.map (.int .i64))),(2004,.own 76 2 (M.trace.map evA)),(2500,.ext (.cells 2 (ZP bs M.mem)))]⟩
   ⟨sl,mH p tape watch bs [] M⟩:=
 Le.cut (.same (.same (.same (.cut (List.nil_prefix) (.same (.same (.same .nil)))))))
def UT(p:Pg)(tape watch:List Int)(bs:List Nat)(vs:List Int)(M:Mc)(st:List Fm)(f:Fm)(g:M.stack=st++[f])(o:OkM p bs M)(x:X):SpecH prog 138 [.ptr 1000 0,.p (.agg x.cells)] (mH p tape watch bs vs M) (fun r H=>∃y,r=.p (q2r (QE M f x))/\H=mH p tape watch bs y (L3 M f x)):=by
 refine sH PI func138 rfl call138 ?_;conv=>whnf
 have d:f∈M.stack:=by rw[g];exact x8s _ (x7y.2 rfl)
 have hT:=JR p tape watch bs vs M st f g o.sl;have c:=o.fr f d;have B:=o.nl f d;have e:=c.len;have C:(UO bs f.F).length=f.F.length:=x7z _;have s:=fun(j:Nat) (q:j<f.F.length)=>EJ (bs:=bs) (vs:=f.F) (i:=j) (v:=f.F[j]) (x7x q);have t:=fun(j:Nat) (q:j<f.F.length)=>Oy (bs:=bs) o.bl (c.rng _ (x7l q));repeat' (first|((first|(refine iM fun _=>?_)|refine x7g rfl ?_|refine z3d 0 0 rfl rfl (x7s 0) (x7p _) ?_);conv=>whnf)|(refine cH rH0 0 hT ?_;conv=>whnf))
 refine LoopK.inv QV (fun j:Nat=>⟨[(0,.ptr 1000 0),(3,.p (.ip x.cells)),(6,.p (fmA bs f)),(24,.p (.sl (UO bs f.F))),(25,.p (.int .i64 (UO bs f.F).length)),(26,.j j)],mH p tape watch bs ((f.F.take j).map fun v=>M.mem.getD v 0) M⟩) (fun j=>j<=f.F.length) (fun j=>f.F.length-j) 0 ?_ (x7p _) ?_
 .exact x0x
 intro j q;have w:((f.F.take j).map fun v=>M.mem.getD v 0).length=j:=by rw[x7z,x8q];omega
 rcases x7m j f.F.length with h|h
 .have u:(f.F.take (j+1)).map (fun v=>M.mem.getD v 0)=(f.F.take j).map (fun v=>M.mem.getD v 0)++[M.mem.getD f.F[j] 0]:=by rw[x7r h,x7n];rfl
  have l:=s j h;have m:=t j h;generalize(f.F.take j).map (fun v=>M.mem.getD v 0)=W at*
  generalize M.mem.getD f.F[j] 0=n at*
  generalize bs.getD f.F[j] 0=b at*
  conv=>whnf
  repeat' (first|((first|refine dA ?_|refine x7g rfl ?_|refine aD ?_|refine bP ?_|refine wI ?_|(refine IdxK.at (k:=j) rfl l rfl ?_)|refine JO rfl rfl ?_|refine Lp (kc:=2500) QV rfl rfl rfl rfl rfl m ?_|refine XX (by simp) (by rw[x7z];omega) ?_);conv=>whnf)|(apply bD<;>intro _<;>first|omega|conv=>whnf)|(refine x7g ?_ ?_<;>conv=>whnf))
  all_goals first
   |exact⟨j+1,h,by omega,Le.of_eq (by rw[u];unfold mH mO;simp only[x7u,x7n];rfl)⟩
 .rw [x7a h]at w⊢;have z:=q5v x f.names (f.F.map fun v=>M.mem.getD v 0);have A:evX (Jm f.names (f.F.map fun v=>M.mem.getD v 0)) x=QE M f x:=rfl;rw[A]at z;unfold L3;generalize f.F.map (fun v=>M.mem.getD v 0)=W at*
  generalize QE M f x=ev at*
  obtain⟨n,D⟩:=ev;cases D;all_goals
   conv=>whnf
   repeat' (first|((first|refine dA ?_|refine x7g rfl ?_|(refine XH z (.cons (.p (Sub.refl _)) (.cons (.p (Sub.refl _)) (.cons (.hd rfl (by simp)) .nil))) (by rintro _ rfl;rfl) ?_;rintro _ rfl)|refine Br.tt ?_|refine Br.ff ?_);conv=>whnf)|(apply bD<;>intro _<;>first|omega|conv=>whnf))
  all_goals first
   |contradiction
   |exact x9h _ (x8z _) ⟨W,rfl,rfl⟩
def Mq(watch:List Int)(M:Mc)(f:Fm)(t:S):Int×Mc:=bif t.has then(bif (QE M f t.x).2 then((QE M f t.x).1,QH watch M t.id [(QE M f t.x).1])else((QE M f t.x).1,endM M 4))else(0,QH watch M t.id [])
def Z4(p:Pg)(tape watch:List Int)(bs:List Nat)(vs:List Int)(M:Mc)(st:List Fm)(f:Fm)(s:M.stack=st++[f])(q:OkM p bs M)(i:M.trace.length<=10000000)(t:S):SpecH prog 78 [.ptr 1000 0,.p (.agg t.cells)] (mH p tape watch bs vs M) (fun r H=>∃h,r=.p (.int .i64 (Mq watch M f t).1)/\H=mH p tape watch bs h (Mq watch M f t).2):=by
 refine sH PA func78 rfl call78 ?_;conv=>whnf
 have o:=UT p tape watch bs vs M st f s q t.x;have l:=XN p tape watch bs vs M t.id [] i;unfold Mq L3 at*
 generalize QE M f t.x=ev at*
 obtain⟨n,u⟩:=ev;have m:=fun h=>XN p tape watch bs h M t.id [n] i;cases v:t.has
 .simp only[x7o];repeat' (first|(refine Br.tt ?_;conv=>whnf)|(refine cH rH0 0 l ?_;conv=>whnf))
  all_goals first
   |contradiction
   |(exfalso;simp_all;done)
   |exact x9h _ (x8z _) ⟨vs,rfl,rfl⟩
 .cases u;all_goals
   simp only[x7c,x7o]at o⊢;repeat' (first|((first|refine x7g rfl ?_|refine aD ?_|refine bP ?_|refine Br.tt ?_|refine Br.ff ?_);conv=>whnf)|(refine cJ rH0 0 o ?_;rintro l' H' ⟨h,rfl,rfl⟩;conv=>whnf)|(refine cH rH0 0 (m h) ?_;conv=>whnf))
  all_goals first
   |contradiction
   |(exfalso;simp_all;done)
   |exact x9h _ (x8z _) ⟨h,rfl,rfl⟩
end Go.Ab
