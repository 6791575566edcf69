/- ref3: main alone, without calls, without jumps. -/
import Derived.Test.YtonbdgcjnecapaaGreatRchR5
import Derived.Test.YtonbdgcjnecapaaGreatRchR8
import Derived.Test.YtonbdgcjnecapaaGreatRchR17
import Derived.Test.YtonbdgcjnecapaaGreatRchR18
set_option linter.all false
set_option maxRecDepth 100000
set_option maxHeartbeats 16000000
namespace Go.Ab
open Go.Proofs.Tryz
open Go.Proofs
variable {N:Nat}
def Q3(b:Bool)(p:Pg)(j:Nat):List Pr:=((p.A.take j).filter fun f=>f.name==mainS).map (q8k b)
def C8(b:Bool)(p:Pg){j:Nat}(i:j<p.A.length):Q3 b p (j+1)=Q3 b p j++(if p.A[j].name==mainS then [q8k b p.A[j]]else []):=by
 unfold Q3;rw[x7r i,z0u,x7n];congr 1;cases h:p.A[j].name==mainS<;>simp[h]
def Es(b:Bool)(p:Pg)(j:Nat):(Q3 b p j).length<=j:=by
 unfold Q3;rw[x7z];exact x8m (x9n _ _) (by rw[x8q];omega)
def x0b(b:Bool)(p:Pg)(j:Nat):St:=⟨[(1,.p (.bool b)),(4,.ptr 1 0),(5,.ptr 0 0),(14,.hd 26 0 p.A.length),(15,.j p.A.length),(16,.j j)],[(26,.own 44 5 (p.A.map fun f=>.agg f.cells)),(0,.obj 25 [.p (eStrs p.B),.hd 2 0 (Q3 b p j).length]),(1,.obj 25 [.p .nils,.p .nils]),(2,.own 44 5 ((Q3 b p j).map fun f=>.agg f.cells))]⟩
def x1l(b:Bool)(p:Pg)(j:Nat):St:=⟨[(1,.p (.bool b)),(4,.ptr 1 0),(5,.ptr 0 0),(14,.hd 26 0 p.A.length),(15,.j p.A.length),(16,.j j)],[(26,.own 44 5 (p.A.map fun f=>.agg f.cells)),(0,.obj 25 [.p (eStrs p.B),.p (.sl ((Q3 b p j).map fun f=>.agg f.cells))]),(1,.obj 25 [.p .nils,.p .nils])]⟩
def x2a(b:Bool)(p:Pg)(j:Nat):Le N (x0b b p j) (x1l b p j):=by
 refine CD (k:=2) (q:=0) (cs:=[eStrs p.B,.sl ((Q3 b p j).map fun f=>.agg f.cells)]) rfl rfl rfl (fun i l c h m=>?_) (fun i=>?_) ?_ fun i c' n=>?_
 .match i,h,m with
  |0,h,m=>cases h;cases m;exact .inl ⟨_,rfl,Sub.refl _⟩
  |1,h,m=>cases h;cases m;exact .inr ⟨_,rfl,by rw[x7z],rfl⟩
  |i+2,h,m=>simp at h
 .refine N7 (fun x o=>?_) i;simp only[x7f,z2m,or_false]at o;rcases o with rfl|rfl|rfl|rfl|rfl|rfl<;>rfl
 .show [26,0,1].Sublist [26,0,1,2];decide
 .simp only[x7f,z2m,or_false,Prod.mk.injEq]at n;rcases n with⟨rfl,rfl⟩|⟨rfl,rfl⟩|⟨rfl,rfl⟩
  .exact ⟨by decide,.inr ⟨x7v,rfl⟩⟩
  .exact ⟨by decide,.inl ⟨rfl,rfl⟩⟩
  .exact ⟨by decide,.inr ⟨x7j _ (x7j _ x7v),rfl⟩⟩
def Zw(b:Bool)(p:Pg)(h:CopyF p)(O:0<p.A.length)(K:CopyF (onlyRaw b p))(l:cntP (onlyRaw b p).A<=100000):SpecP prog 41 [.agg p.cells,.bool b] (fun r=>r=.agg (onlyPg b p).cells):=by
 refine sB NZ func41 rfl call41 ?_;conv=>whnf
 have a:=XW p.B h.B;have Q:(p.A.map fun f=>AV.agg f.cells).length=p.A.length:=x7z _;have P:=h.A;repeat' ((first|(refine iM fun _=>?_)|refine x7g rfl ?_|refine cP a ?_|(refine cH [] 20 (GL p h) ?_ (hH:=z0z)));conv=>whnf)
 refine LoopK.inv QV (fun x:Nat×Bool=>if x.2 then x1l b p x.1 else x0b b p x.1) (fun x=>x.1<=p.A.length/\(x.2=false->x.1<p.A.length)/\(x.2=true->x.1=p.A.length)) (fun x=>p.A.length-x.1) (0,false)
  (Le.mk [(2,.own 44 5 [])] (by simp[Chunk.new0];rfl) (by simp) (by simp) (.r (.r (.r (.r (.r (.r .nil)))))) (.cons rfl (.refl _) (.cons rfl (.obj (.r (.cons (.nil x7v) .nil))) (.cons rfl (.refl _) (.new x7v .nil))))) ⟨x7p _,fun _=>O,fun h=>by cases h⟩ ?_
 rintro⟨j,m⟩ ⟨I,D,E⟩;simp only at I D E;cases m with
 | false =>
   have w:=D rfl;obtain⟨T,G,H,L,g⟩:=h.pr _ (x7l w);have F:=Zj b (cntL p.A[j].body+1) p.A[j].body (by omega) (by omega) fun t R=>(g t R).1;have q:(p.A.map fun f=>AV.agg f.cells)[j]?=some (.agg p.A[j].cells):=by rw[x7k,x7x w];rfl
   have u:=C8 b p w;have d:=Es b p j;have fin:∃x:Nat×Bool,(x.1<=p.A.length/\(x.2=false->x.1<p.A.length)/\(x.2=true->x.1=p.A.length))/\p.A.length-x.1<p.A.length-j/\Le Tryz.f41.ntmps (x0b b p (j+1)) (if x.2 then x1l b p x.1 else x0b b p x.1):=by
    rcases x7m (j+1) p.A.length with y|y
    .exact ⟨(j+1,false),⟨by simp only;omega,fun _=>y,fun h=>by cases h⟩,by simp only;omega,Le.of_eq rfl⟩
    .exact ⟨(j+1,true),⟨by simp only;omega,(fun h=>by cases h),fun _=>by simp only;omega⟩,by simp only;omega,x2a b p (j+1)⟩
   obtain⟨x,n,o,k⟩:=fin;unfold x0b at k⊢;rw[u]at k;have s:((Q3 b p j).map fun f=>AV.agg f.cells).length=(Q3 b p j).length:=x7z _;generalize Q3 b p j=row at k d s⊢;cases z:p.A[j].name==mainS with
   | true=>
     rw[z,if_pos rfl,x7n,x7u]at k;have e:(p.A[j].name==([109,97,105,110]:Str))=true:=z;cases b <;>
     conv=>whnf
     repeat' (first|((first|refine x7g rfl ?_|refine aD ?_|refine bP ?_|refine wI ?_|refine x9g j 0 (.agg p.A[j].cells) (by show(0+j)*5=j*5+0;omega) q ?_|refine x8p j rfl w ?_|(refine CallK.pure F (.cons (Sub.refl _) (.cons (by first|exact Sub.refl _|exact Sub.tt rfl|exact Sub.ff rfl) .nil)) ?_;rintro _ rfl)|refine z0w s.symm rfl (by show(row.length+1)*112<=140737488355328;omega) (by show row.length+1<=9223372036854775807;omega) (fun x C=>by rcases x7y.1 C with rfl;exact⟨rfl,rfl⟩) ?_);conv=>whnf)|(apply bD<;>intro _<;>first|omega|conv=>whnf)|(apply bN<;>intro _<;>conv=>whnf)|(apply bB<;>intro _<;>conv=>whnf))
     all_goals first
      |exact⟨x,n,o,(Le.of_eq rfl).trans k⟩
      |(exfalso;simp_all;done)
      |exact⟨x,n,o,(Le.M (.same (.same (.same (.M (BQ (ElS.refl (row.map fun f=>AV.agg f.cells)) (x':=.agg (q8k false p.A[j]).cells) (by rfl) (fun i c' l=>by
         match i,l with
         |0,l=>cases l;exact⟨_,rfl,Sub.refl _⟩
         |1,l=>cases l;exact⟨_,rfl,Sub.refl _⟩
         |2,l=>cases l;exact⟨_,rfl,Sub.refl _⟩
         |3,l=>cases l;exact⟨_,rfl,Sub.refl _⟩
         |4,l=>cases l;exact⟨_,rfl,Sub.nils⟩
         |i+5,l=>simp[AV.cells,Pr.cells]at l)) .nil))))).trans ((Le.of_eq (by rfl)).trans k)⟩
      |(refine⟨x,n,o,(Le.M (.same (.same (.same (.M (BQ (ElS.refl (row.map fun f=>AV.agg f.cells)) (x':=.agg (q8k false p.A[j]).cells) ?_ ?_) .nil))))).trans ((Le.of_eq ?_).trans k)⟩<;>trace_state)
   | false=>
     rw[z,if_neg (by decide),x9q]at k;have e:(p.A[j].name==([109,97,105,110]:Str))=false:=z;conv=>whnf
     repeat' (first|((first|refine x7g rfl ?_|refine aD ?_|refine bP ?_|refine wI ?_|refine x9g j 0 (.agg p.A[j].cells) (by show(0+j)*5=j*5+0;omega) q ?_|refine x8p j rfl w ?_|(refine CallK.pure F (.cons (Sub.refl _) (.cons (by first|exact Sub.refl _|exact Sub.tt rfl|exact Sub.ff rfl) .nil)) ?_;rintro _ rfl)|refine z0w s.symm rfl (by show(row.length+1)*112<=140737488355328;omega) (by show row.length+1<=9223372036854775807;omega) (fun x C=>by rcases x7y.1 C with rfl;exact⟨rfl,rfl⟩) ?_);conv=>whnf)|(apply bD<;>intro _<;>first|omega|conv=>whnf)|(apply bN<;>intro _<;>conv=>whnf)|(apply bB<;>intro _<;>conv=>whnf))
     all_goals first
      |exact⟨x,n,o,(Le.of_eq rfl).trans k⟩
      |(exfalso;simp_all;done)
 | true=>
   have c:=E rfl;subst c;have J:Q3 b p p.A.length=(onlyRaw b p).A:=by
    unfold Q3 onlyRaw;rw[x7a (x7s _)]
   unfold x1l;rw[J];have v:=MV (onlyRaw b p) K l;conv=>whnf
   repeat' (first|((first|refine x7g rfl ?_|refine cP v ?_);conv=>whnf)|(apply bD<;>intro _<;>first|omega|conv=>whnf))
   exact⟨_,.p (Sub.refl _),rfl⟩
section
variable {p:Pg}{j:Nat}{f:Pr}
end
section
variable {p:Pg}{j:Nat}{f:Pr}
end
structure Book where
 s:Sheet
 ways:List Way
 N:List (List Str)
 O:List (List Str)
 ins:List (List Str)
 Q:List (List Str)
def Book.cells(b:Book):List AV:=[.ip b.s.cells,.sl (b.ways.map fun w=>.ip w.cells),.sl (b.N.map eStrs),.sl (b.O.map eStrs),.sl (b.ins.map eStrs),.sl (b.Q.map eStrs)]
def GM:Str:=[36,105,110]
def comB(p:Pg)(n:Str):Bool:=(n==GM)||p.B.any fun s=>n==s
def HE(b:Book)(n:Str):SpecP prog 165 [.ip b.cells,.str n] (fun r=>r=.bool (comB b.s.p n)):=by
 refine sB MD func165 rfl call165 ?_;conv=>whnf
 repeat' (first|(refine cP (QX _ _) ?_;conv=>whnf)|(apply bB<;>intro _<;>conv=>whnf))
 all_goals first
  | (have h:(n==GM)=true:=by assumption
     exact RetK.tt (by unfold comB;rw[h];rfl))
  | (have h:(n==GM)=false:=by assumption
     exact RetK.bool (by unfold comB;rw[h,Bool.false_or]))
def B3(p:Pg)(j:Nat)(f:Pr)(h:chkB p=true)(q:p.A[j]?=some f)(id:Int)(i:plP p j f id):SpecP prog 164 [.ip (newWay p j f).cells,.int .i64 id] (fun r=>r=.bool ((newWay p j f).live.getD (ixI p j f id).toNat false)):=by
 refine sB Ve func164 rfl call164 ?_;conv=>whnf
 have hT:=q8q h q;have l:=Qh (newWay p j f) f hT.hj hT.hc (by have:=hT.hn2;have:=hT.hn;have:=hT.hw;omega) id;have m:UV (loI (newWay p j f).p (newWay p j f).j) (hiI (newWay p j f).p (newWay p j f).j f) (newWay p j f).n id=ixI p j f id:=rfl;rw[m]at l;have t:=WS i;have s:(newWay p j f).live.length=cntL f.body+2:=by show(KH _ (List.replicate (cntL f.body+2) false)).length=_;rw[Z5];simp
 generalize ixI p j f id=ix at*
 have o:((newWay p j f).live.map bv)[ix.toNat]?=some (bv ((newWay p j f).live.getD ix.toNat false)):=by
  rw[x7k,x7w,x7x (by omega)];rfl
 generalize(newWay p j f).live.getD ix.toNat false=v at*
 cases v;all_goals
  repeat' ((first|refine dA ?_|refine cP l ?_|(refine IdxK.at (k:=ix.toNat) (by omega) o rfl ?_));conv=>whnf)
 all_goals first
  |exact RetK.tt rfl
  |exact RetK.ff rfl
inductive RwL(k:Nat)(es:List AV):LV->LV->Prop
 |keep {l:LV} (hf:l.free k=true):RwL k es l l
 |row {n:Nat} (hn:n=es.length):RwL k es (.hd k 0 n) (.p (.sl es))
inductive RwC(k:Nat)(es:List AV):List LV->List LV->Prop
 |nil:RwC k es [] []
 |cons {l l':LV} {r r':List LV} (h:RwL k es l l') (hr:RwC k es r r'):RwC k es (l::r) (l'::r')
theorem RwC.get{k:Nat}{es:List AV}{ls i:List LV}(h:RwC k es ls i):i.length=ls.length/\∀(j:Nat)(l':LV),i[j]?=some l'->∃l,ls[j]?=some l/\RwL k es l l':=by
 induction h with
 |nil=>exact⟨rfl,by simp⟩
 | cons h q o=>
   refine⟨by simp[o.1],fun j l' m=>?_⟩;cases j with
   |zero=>simp at m;subst m;exact⟨_,rfl,h⟩
   |succ j=>exact o.2 j l' (by simpa using m)
inductive RwS(k:Nat)(es:List AV):List (Nat×LV)->List (Nat×LV)->Prop
 |nil:RwS k es [] []
 |cons {i:Nat} {l l':LV} {r r':List (Nat×LV)} (h:RwL k es l l') (hr:RwS k es r r'):RwS k es ((i,l)::r) ((i,l')::r')
theorem RwS.get{k:Nat}{es:List AV}{sl sl':List (Nat×LV)}(h:RwS k es sl sl')(i:Nat):RwL k es (getS sl i) (getS sl' i):=by
 induction h with
 |nil=>exact .keep rfl
 | @cons j l l' r q h o m=>
   simp only[getS];cases j==i
   .exact m
   .exact h
inductive RwH(k:Nat)(es:List AV):Heap->Heap->Prop
 |nil:RwH k es [] []
 |drop {e:TypeId} {sz:Nat} {es':List AV} {H H':Heap} (h:RwH k es H H'):RwH k es ((k,.own e sz es')::H) H'
 |own {j:Nat} {e:TypeId} {sz:Nat} {es':List AV} {H H':Heap} (hj:j≠k) (h:RwH k es H H'):RwH k es ((j,.own e sz es')::H) ((j,.own e sz es')::H')
 |ext {j:Nat} {d:XC} {H H':Heap} (hj:j≠k) (h:RwH k es H H'):RwH k es ((j,.ext d)::H) ((j,.ext d)::H')
 |obj {j:Nat} {e:TypeId} {cs cs':List LV} {H H':Heap} (hj:j≠k) (hc:RwC k es cs cs') (h:RwH k es H H'):RwH k es ((j,.obj e cs)::H) ((j,.obj e cs')::H')
inductive CRw(k:Nat)(es:List AV):Chunk->Chunk->Prop
 |own {e:TypeId} {sz:Nat} {es':List AV}:CRw k es (.own e sz es') (.own e sz es')
 |ext {d:XC}:CRw k es (.ext d) (.ext d)
 |obj {e:TypeId} {cs cs':List LV} (hc:RwC k es cs cs'):CRw k es (.obj e cs) (.obj e cs')
theorem RwH.get{k:Nat}{es:List AV}{H H':Heap}(h:RwH k es H H'):(H'.map (·.1)).Sublist (H.map (·.1))/\∀j c',(j,c')∈H'->j≠k/\∃c,(j,c)∈H/\CRw k es c c':=by
 induction h with
 |nil=>exact⟨.slnil,by simp⟩
 |drop h l=>exact⟨l.1.cons _,fun j c' r=>let ⟨m,c,o,q⟩:=l.2 j c' r;⟨m,c,x7j _ o,q⟩⟩
 | own r h l=>
   refine⟨l.1.cons_cons _,fun j c' i=>?_⟩;rcases x7f.1 i with t|i
   .cases t;exact⟨r,_,x7v,.own⟩
   .obtain ⟨m,c,o,q⟩:=l.2 j c' i;exact⟨m,c,x7j _ o,q⟩
 | ext r h l=>
   refine⟨l.1.cons_cons _,fun j c' i=>?_⟩;rcases x7f.1 i with t|i
   .cases t;exact⟨r,_,x7v,.ext⟩
   .obtain ⟨m,c,o,q⟩:=l.2 j c' i;exact⟨m,c,x7j _ o,q⟩
 | obj r u h l=>
   refine⟨l.1.cons_cons _,fun j c' i=>?_⟩;rcases x7f.1 i with t|i
   .cases t;exact⟨r,_,x7v,.obj u⟩
   .obtain ⟨m,c,o,q⟩:=l.2 j c' i;exact⟨m,c,x7j _ o,q⟩
def IA{sl sl':List (Nat×LV)}{H H':Heap}{k:Nat}{e:TypeId}{sz:Nat}{es:List AV}(hg:getH H k=some (.own e sz es))(hs:RwS k es sl sl')(hh:RwH k es H H'):Le N ⟨sl,H⟩ ⟨sl',H'⟩:=fun σ β a w s=>by
 obtain⟨d,y⟩:=hh.get;have G:=d.nodup s.heap.nodup;have q:∀j∈H'.map (·.1),j∈H.map (·.1):=fun j n=>d.subset n;rcases ZG.1 (s.heap.chunks k _ (QJ hg))with⟨M,rfl⟩|⟨i,vs,P,hisz,hb,hn,hle',hmax,hE⟩
 .have C:∀{l l':LV}{v:Value},RwL k [] l l'->RepL σ β l v->RepL σ β l' v:=fun {l l' v} V g=>by
   cases V with
   |keep=>exact g
   | row hn=>
     rcases g.hdI with⟨_,_,_,he⟩|⟨i,_,z,_⟩
     .rw [he];exact .p .nilsl
     .rw [M]at z;cases z
  refine⟨σ,β,⟨s.size,s.defers,fun j=>C (hs.get j) (s.E j),⟨s.heap.mem,fun j c' n=>?_,G,fun j n=>s.heap.apart j (q j n),fun j n j' Q=>s.heap.inj j (q j n) j' (q j' Q)⟩⟩,Mem.le_refl σ,Frm.refl _ _,fun _ h0 t=>absurd h0 t,fun b ⟨j,n,r⟩=>.inl ⟨j,q j n,r⟩,fun _ _ _=>rfl⟩;obtain⟨_,c,F,L⟩:=y j c' n;have h:=s.heap.chunks j c F;cases L with
  |own=>exact h
  |ext=>exact h
  | obj O=>
    obtain⟨i',B,Y,Z,q3,q4⟩:=h;obtain⟨q5,q6⟩:=O.get;refine⟨i',B,Y,Z,by omega,fun m l' R=>?_⟩;obtain⟨l,q7,q8⟩:=q6 m l' R;obtain⟨u,q9,A⟩:=q4 m l q7;exact⟨u,q9,C q8 A⟩
 .have C:∀τ:Mem,σ.le τ->τ i.blk=some vs->∀{l l':LV}{v:Value},RwL k es l l'->RepL σ β l v->RepL τ β l' v:=fun τ o J {l l' v} V g=>by
   cases V with
   |keep=>exact g.mono o
   | row T=>
     rcases g.hdI with⟨z,_⟩|⟨i',oo,z,C,K,rfl⟩
     .rw [P]at z;cases z
     .rw [P]at z;cases z;have U:oo=0:=by
       rcases K with K|K
       .simpa using K
       .omega
      subst U T;obtain⟨u,hu⟩ : ∃u:Nat->Nat->Value,∀(m:Nat)(x:AV)(j:Nat)(c:AV),es[m]?=some x->x.cells[j]?=some c->vs[m*sz+j]?=some (u m j)/\Rep σ c (u m j):=by
       refine⟨fun m j=>(vs[m*sz+j]?).getD undef,fun m x j c I n=>?_⟩;obtain⟨v,t,F⟩:=hE.rep m x j c I n;rw[x8r]at t;split at t
       .have D:vs[m*sz+j]?=some v:=by simpa using t
        exact⟨by simp[D],by simpa[D]using F⟩
       .cases t
      exact .p (.sl es i.blk 0 _ sz vs u J (by omega) (by omega) hE.size (fun m x j c I n=>by simpa using(hu m x j c I n).1) fun m x j c I n=>(hu m x j c I n).2.mono o)
  refine s.lay P (QD hg) hb (fun τ o J j v g=>C τ o J (hs.get j) g) (fun τ o J j c' n=>?_) G;obtain⟨t,c,F,L⟩:=y j c' n;refine⟨t,c,F,fun h=>?_⟩;cases L with
  |own=>exact h.mono o fun _ _ _ _=>rfl
  |ext=>exact h.mono o fun _ _ _ _=>rfl
  | obj O=>
    obtain⟨i',B,Y,Z,q3,q4⟩:=h;obtain⟨q5,q6⟩:=O.get;refine⟨i',B,Y,Z,by omega,fun m l' R=>?_⟩;obtain⟨l,q7,q8⟩:=q6 m l' R;obtain⟨u,q9,A⟩:=q4 m l q7;exact⟨u,q9,C τ o J q8 A⟩
def pureL:LV->LV
 |.p a=>.p a
 |_=>.p .any
def Cz:List (Nat×LV)->List (Nat×LV)
 |[]=>[]
 |(j,l)::r=>(j,pureL l)::Cz r
theorem M8:∀(sl:List (Nat×LV))(i:Nat),getS (Cz sl) i=pureL (getS sl i)
 |[],i=>rfl
 | (j,l)::r,i=>by
   rw[Cz,getS,getS];cases j==i with
   |true=>rfl
   |false=>exact M8 r i
def DO{P:Program}{g:FuncId}{args:List LV}{o:Option Nat}{s:St}{K:St->Prop}{avs:List AV}{R:AV->Prop}(I:SpecP P g avs R)(ha:FrzL s.H args avs)(h:∀c,R c->setD N (Cz s.sl) o (.p c) fun sl=>K ⟨sl,[]⟩):CallK P N g args o s K:=by
 refine⟨fun σ β a w A m Z hv=>⟨I.go m,?_⟩⟩;obtain⟨t,q⟩:=ha.get;obtain⟨τ,G,L,M,O⟩:=LB A.heap;refine(I.ok τ w m (Z.trans t) (fun j c D=>?_) L).mono fun e w' ⟨c,u,σ',V,T,z,r,Y,n,v⟩=>?_
 .obtain ⟨l,B,d⟩:=q j c D;exact O l _ c (hv j l B) d
 .have F:Rel N σ' β ⟨Cz s.sl,[]⟩ a w':=⟨A.size,A.defers,fun i=>by
   show RepL σ' β (getS (Cz s.sl) i) _;rw[M8];have:=A.E i;generalize getS s.sl i=l at this⊢;cases l with
   |p x=>exact this.mono (Mem.le_trans G r)
   |_=>exact .p (.any _),⟨Y,fun k c h=>(by cases h),z3c,fun k h=>(by cases h),fun k h=>(by cases h)⟩⟩
  obtain⟨sl,Q,y⟩:=F.setD (.p z) (h c T);refine⟨u,σ',β,_,V,Q,y,Mem.le_trans G r,⟨n.os,n.tape,n.output,n.drawn,n.size,fun b U _=>n.block b U id⟩,fun b J B=>?_,fun b ⟨j,D,_⟩=>(by cases D),fun _ _ _=>rfl⟩;by_cases d:τ b=none
  .exact .inr (v b d B)
  .rcases M b d with C|C
   .exact absurd J C
   .exact .inl C
def eN(r:List Int):AV:=if r=[]then .nils else QB r
def MO(m:Nat):List Int:=(List.range m).map Int.ofNat
def gnC(n:Nat)(at_:List Nat):Nat->List (List Int)
 |0=>List.replicate n []
 |k+1=>(gnC n at_ k).set (at_.getD k 0) [(k:Int)]
def klC(n:Nat)(at_:List Nat):Nat->List (List Int)
 |0=>List.replicate n []
 |k+1=>(klC n at_ k).set (at_.getD k 0) (MO at_.length)
theorem DQ(n:Nat)(at_:List Nat):∀k,(gnC n at_ k).length=n
 |0=>by simp[gnC]
 |k+1=>by rw[gnC,x9d,DQ n at_ k]
theorem DY(n:Nat)(at_:List Nat):∀k,(klC n at_ k).length=n
 |0=>by simp[klC]
 |k+1=>by rw[klC,x9d,DY n at_ k]
def We(m:Nat):(MO m).length=m:=by unfold MO;simp
def P8(m:Nat):MO (m+1)=MO m++[(m:Int)]:=by unfold MO;rw[z1c,x7n];rfl
def O6{m:Nat}{f:Int}(h:f∈MO m):0<=f/\f<m:=by
 unfold MO at h;obtain⟨x,i,rfl⟩:=x7d.1 h;have:=x8n.1 i;exact⟨z2s _,by show(x:Int)<m;omega⟩
def x2y{r:List Int}(h:r≠[]):eN r=QB r:=if_neg h
theorem LH:∀l:List (List Int),SubE (l.map eN) ((avI l).map .sl)
 |[]=>.nil
 | r::l=>by
   refine .cons ?_ (LH l);unfold eN;split
   .rename_i h;subst h;exact SubL.cons Sub.nils SubL.nil
   .exact SubL.cons (Sub.refl _) SubL.nil
def T9(n:Nat)(at_:List Nat):(gnC n at_ 0).map eN=List.replicate n .nils:=by rw[gnC,z0n];rfl
def Tf(n:Nat)(at_:List Nat):(klC n at_ 0).map eN=List.replicate n .nils:=by rw[klC,z0n];rfl
def q3x(n:Nat)(at_:List Nat){q:Nat}(h:q<at_.length):((gnC n at_ q).map eN).set at_[q] (.sl [.int .i64 q])=(gnC n at_ (q+1)).map eN:=by
 rw[gnC,x8o,x7w,x7x h];rfl
def q3j(n:Nat)(at_:List Nat){q:Nat}(h:q<at_.length):((klC n at_ q).map eN).set at_[q] (QB (MO at_.length))=(klC n at_ (q+1)).map eN:=by
 rw[klC,x8o,x7w,x7x h,x2y (fun e=>by have:=We at_.length;rw[e]at this;simp at this;omega)];rfl
theorem OV(n:Nat)(at_:List Nat)(l:at_.length<=5000):∀k,k<=at_.length->∀r∈gnC n at_ k,r.length<=5000/\∀f∈r,0<=f/\f<(at_.length:Nat)
 | 0,_,r,hr=>by
   rw[gnC]at hr;rw[(z3h.1 hr).2];exact⟨by simp,fun f i=>by cases i⟩
 | k+1,hk,r,hr=>by
   rw[gnC]at hr;rcases z1f hr with h|h
   .exact OV n at_ l k (by omega) r h
   .subst h;exact⟨by simp,fun f i=>by rw[x7y.1 i];omega⟩
theorem OE(n:Nat)(at_:List Nat)(l:at_.length<=5000):∀k,∀r∈klC n at_ k,r.length<=5000/\∀f∈r,0<=f/\f<(at_.length:Nat)
 | 0,r,hr=>by
   rw[klC]at hr;rw[(z3h.1 hr).2];exact⟨by simp,fun f i=>by cases i⟩
 | k+1,r,hr=>by
   rw[klC]at hr;rcases z1f hr with h|h
   .exact OE n at_ l k r h
   .subst h;exact⟨by rw[We];exact l,fun f i=>O6 i⟩
def ComR(n:Nat)(steps:List (Int×Int))(at_:List Nat)(r:AV):Prop:=∃R:List (List Wd),(∀b:Int,0<=b->b<n->∀f,f/64<at_.length/64+1->(bitW (R.getD b.toNat []) f=true↔SolP (QL n steps).1 ((gnC n at_ at_.length).map (HP (at_.length/64+1))) ((klC n at_ at_.length).map (HP (at_.length/64+1))) f b))/\R.length=n/\r=eMat (R.map fun row=>YW row at_.length)
def Y0(b:Book)(i:Nat)(w:Way)(P:b.ways[i]?=some w)(n:Nat)(M:n<=5000)(F:w.n=n)(steps:List (Int×Int))(L:steps.length<=1000000)(O:∀s∈steps,(0<=s.1/\s.1<n)/\0<=s.2/\s.2<n)(at_:List Nat)(E:∀a∈at_,a<n)(A:at_.length<=5000):SpecP prog 113 [.ip b.cells,.int .i64 i,.sl (avP steps),.sl (at_.map fun a=>.int .i64 (a:Nat))] (fun r=>ComR n steps at_ r):=by
 refine sB Qa func113 rfl call113 ?_;conv=>whnf
 have H:(b.ways.map fun w=>AV.ip w.cells)[i]?=some (.ip w.cells):=by rw[x7k,P];rfl
 have z:(at_.map fun a=>AV.int .i64 (a:Nat)).length=at_.length:=x7z _;repeat' (first|((first|(refine iM fun _=>?_)|refine dA ?_|refine aR ?_|(refine IdxK.at (k:=i) rfl H rfl ?_)|refine z2b n (by omega) (by show 24*_<=140737488355328;omega) (by unfold maxLen;omega) ?_);conv=>whnf)|(refine x7g ?_ ?_<;>conv=>whnf))
 .refine LoopK.inv QV (fun j:Nat=>⟨[(2,.p (.sl (avP steps))),(3,.p (.sl (at_.map fun a=>.int .i64 (a:Nat)))),(9,.j n),(10,.hd 0 0 n),(11,.hd 1 0 n),(12,.hd 2 0 ((MO j).map (AV.int .i64)).length),(33,.p (.int .i64 (at_.map fun a=>AV.int .i64 (a:Nat)).length)),(34,.j j)],[(1,.own 54 1 (List.replicate n .nils)),(0,.own 54 1 (List.replicate n .nils)),(2,.own 3 1 ((MO j).map (.int .i64)))]⟩) (fun j=>j<=at_.length) (fun j=>at_.length-j) 0
   (Le.mk [(2,.own 3 1 [])] (by simp[Chunk.new0];rfl) (by simp) (by simp) (.r (.r (.cons (.of_eq (by rw[F];rfl)) (.r (.r (.cons (.nil x7v) (.r (.r .nil)))))))) (.cons rfl (.of_eq rfl) (.cons rfl (.of_eq rfl) (.new x7v .nil)))) (x7p _) ?_
  intro j Q;have G:=We j;rcases x7m j at_.length with D|D
  .have g:=P8 j;generalize MO j=acc at*
   conv=>whnf
   repeat' (first|((first|refine x7g rfl ?_|refine aD ?_|refine bP ?_|refine wI ?_|refine XX (by simp) (by simp;omega) ?_);conv=>whnf)|(apply bD<;>intro _<;>first|omega|conv=>whnf))
   all_goals first
    |exact⟨j+1,D,by omega,Le.of_eq (by rw[g];simp only[x7u,x7n];rfl)⟩
  .obtain rfl:j=at_.length:=by omega
   conv=>whnf
   repeat' (first|(refine iM fun _=>?_;conv=>whnf)|(apply bD<;>intro _<;>first|omega|conv=>whnf))
   refine LoopK.inv QV (fun q:Nat=>⟨[(2,.p (.sl (avP steps))),(3,.p (.sl (at_.map fun a=>.int .i64 (a:Nat)))),(9,.j n),(10,.hd 0 0 n),(11,.hd 1 0 n),(12,.p (QB (MO at_.length))),(42,.p (.sl (at_.map fun a=>.int .i64 (a:Nat)))),(43,.p (.int .i64 (at_.map fun a=>AV.int .i64 (a:Nat)).length)),(44,.j q)],[(1,.own 54 1 ((klC n at_ q).map eN)),(0,.own 54 1 ((gnC n at_ q).map eN))]⟩) (fun q=>q<=at_.length) (fun q=>at_.length-q) 0
    (by
      obtain⟨s',rfl,d⟩:=Le.row (N:=Tryz.f113.ntmps) (s:=⟨[(2,.p (.sl (avP steps))),(3,.p (.sl (at_.map fun a=>.int .i64 (a:Nat)))),(9,.j n),(10,.hd 0 0 n),(11,.hd 1 0 n),(12,.hd 2 0 ((MO at_.length).map (AV.int .i64)).length),(42,.p (.sl (at_.map fun a=>.int .i64 (a:Nat)))),(43,.p (.int .i64 (at_.map fun a=>AV.int .i64 (a:Nat)).length)),(44,.j 0)],[(1,.own 54 1 (List.replicate n .nils)),(0,.own 54 1 (List.replicate n .nils)),(2,.own 3 1 ((MO at_.length).map (.int .i64)))]⟩) (k:=2) (e:=3) (sz:=1) (es:=(MO at_.length).map (.int .i64)) (zs:=[12]) rfl
       (K:=fun s=>s=⟨[(2,.p (.sl (avP steps))),(3,.p (.sl (at_.map fun a=>.int .i64 (a:Nat)))),(9,.j n),(10,.hd 0 0 n),(11,.hd 1 0 n),(12,.p (QB (MO at_.length))),(42,.p (.sl (at_.map fun a=>.int .i64 (a:Nat)))),(43,.p (.int .i64 (at_.map fun a=>AV.int .i64 (a:Nat)).length)),(44,.j 0)],[(1,.own 54 1 (List.replicate n .nils)),(0,.own 54 1 (List.replicate n .nils))]⟩) ⟨rfl,rfl⟩
      exact d.trans (Le.of_eq (by rw[Tf,T9];rfl))) (x7p _) ?_
   intro q T;have m:=DQ n at_ q;have v:=DY n at_ q;rcases x7m q at_.length with h|h
   .have o:=q3x n at_ h;have x:=q3j n at_ h;have c:=E _ (x7l h);obtain⟨a,y⟩ : ∃a,at_[q]=a:=⟨_,rfl⟩;rw[y]at o x c;generalize gnC n at_ q=gn at*
    generalize klC n at_ q=kl at*
    have B:(gn.map eN)[a]?=some (eN (gn[a]'(by omega))):=by rw[x7k,x7x (by omega)];rfl
    have C:(kl.map eN)[a]?=some (eN (kl[a]'(by omega))):=by rw[x7k,x7x (by omega)];rfl
    have I:(gn.map eN).length=n:=by rw[x7z,m]
    have J:(kl.map eN).length=n:=by rw[x7z,v]
    generalize gn[a]'(by omega)=o1 at B;generalize kl[a]'(by omega)=o2 at C;conv=>whnf
    repeat' (first|((first|refine x7g rfl ?_|refine aD ?_|refine bP ?_|(refine iA fun _=>?_)|refine wI ?_|refine x8p a (by rw[y]) (by omega) ?_|refine z0d a 0 (eN o1) (.sl [.int .i64 q]) (by omega) B (x7s 1) (by unfold eN;split<;>rfl) ?_|refine z0d a 0 (eN o2) (QB (MO at_.length)) (by omega) C (x7s 1) (by unfold eN;split<;>rfl) ?_);conv=>whnf)|(apply bD<;>intro _<;>first|omega|conv=>whnf))
    all_goals first
     |exact⟨q+1,h,by omega,Le.of_eq (by rw[<-o,<-x];rfl)⟩
   .obtain rfl:q=at_.length:=by omega
    have l:=TS n M steps L O (gnC n at_ at_.length) (klC n at_ at_.length) m v at_.length A (OV n at_ A at_.length (x7s _)) (OE n at_ A at_.length);conv=>whnf
    repeat' (first|((first|(refine iM fun _=>?_)|refine x7g rfl ?_|(refine DO l (.cons (.p (Sub.refl _)) (.cons (.p (Sub.refl _)) (.cons (.sub (.hd rfl (by rw[x7z,DQ])) (Sub.sl (LH _))) (.cons (.sub (.hd rfl (by rw[x7z,DY])) (Sub.sl (LH _))) (.cons (.p (Sub.int (by rw[z]))) .nil))))) ?_;rintro _ ⟨R,U,t,u,rfl⟩));conv=>whnf)|(apply bD<;>intro _<;>first|omega|conv=>whnf))
    all_goals first
     |exact⟨_,.p (Sub.refl _),R,t,u,rfl⟩
     |refine DO l (.cons (.p (Sub.refl _)) (.cons (.p (Sub.refl _)) (.cons (.sub (.hd rfl (by rw[x7z,DQ])) (Sub.sl (LH _))) (.cons (.sub (.hd rfl (by rw[x7z,DY])) (Sub.sl (LH _))) (.cons (.p (Sub.int (by rw[z]))) .nil))))) ?_
 .refine LoopK.inv QV (fun j:Nat=>⟨[(2,.p (.sl (avP steps))),(3,.p (.sl (at_.map fun a=>.int .i64 (a:Nat)))),(9,.j n),(10,.hd 1 0 n),(11,.hd 0 0 n),(12,.hd 2 0 ((MO j).map (AV.int .i64)).length),(33,.p (.int .i64 (at_.map fun a=>AV.int .i64 (a:Nat)).length)),(34,.j j)],[(1,.own 54 1 (List.replicate n .nils)),(0,.own 54 1 (List.replicate n .nils)),(2,.own 3 1 ((MO j).map (.int .i64)))]⟩) (fun j=>j<=at_.length) (fun j=>at_.length-j) 0
   (Le.mk [(2,.own 3 1 [])] (by simp[Chunk.new0];rfl) (by simp) (by simp) (.r (.r (.cons (.of_eq (by rw[F];rfl)) (.r (.r (.cons (.nil x7v) (.r (.r .nil)))))))) (.cons rfl (.of_eq rfl) (.cons rfl (.of_eq rfl) (.new x7v .nil)))) (x7p _) ?_
  intro j Q;have G:=We j;rcases x7m j at_.length with D|D
  .have g:=P8 j;generalize MO j=acc at*
   conv=>whnf
   repeat' (first|((first|refine x7g rfl ?_|refine aD ?_|refine bP ?_|refine wI ?_|refine XX (by simp) (by simp;omega) ?_);conv=>whnf)|(apply bD<;>intro _<;>first|omega|conv=>whnf))
   all_goals first
    |exact⟨j+1,D,by omega,Le.of_eq (by rw[g];simp only[x7u,x7n];rfl)⟩
  .obtain rfl:j=at_.length:=by omega
   conv=>whnf
   repeat' (first|(refine iM fun _=>?_;conv=>whnf)|(apply bD<;>intro _<;>first|omega|conv=>whnf))
   refine LoopK.inv QV (fun q:Nat=>⟨[(2,.p (.sl (avP steps))),(3,.p (.sl (at_.map fun a=>.int .i64 (a:Nat)))),(9,.j n),(10,.hd 1 0 n),(11,.hd 0 0 n),(12,.p (QB (MO at_.length))),(42,.p (.sl (at_.map fun a=>.int .i64 (a:Nat)))),(43,.p (.int .i64 (at_.map fun a=>AV.int .i64 (a:Nat)).length)),(44,.j q)],[(1,.own 54 1 ((gnC n at_ q).map eN)),(0,.own 54 1 ((klC n at_ q).map eN))]⟩) (fun q=>q<=at_.length) (fun q=>at_.length-q) 0
    (by
      obtain⟨s',rfl,d⟩:=Le.row (N:=Tryz.f113.ntmps) (s:=⟨[(2,.p (.sl (avP steps))),(3,.p (.sl (at_.map fun a=>.int .i64 (a:Nat)))),(9,.j n),(10,.hd 1 0 n),(11,.hd 0 0 n),(12,.hd 2 0 ((MO at_.length).map (AV.int .i64)).length),(42,.p (.sl (at_.map fun a=>.int .i64 (a:Nat)))),(43,.p (.int .i64 (at_.map fun a=>AV.int .i64 (a:Nat)).length)),(44,.j 0)],[(1,.own 54 1 (List.replicate n .nils)),(0,.own 54 1 (List.replicate n .nils)),(2,.own 3 1 ((MO at_.length).map (.int .i64)))]⟩) (k:=2) (e:=3) (sz:=1) (es:=(MO at_.length).map (.int .i64)) (zs:=[12]) rfl
       (K:=fun s=>s=⟨[(2,.p (.sl (avP steps))),(3,.p (.sl (at_.map fun a=>.int .i64 (a:Nat)))),(9,.j n),(10,.hd 1 0 n),(11,.hd 0 0 n),(12,.p (QB (MO at_.length))),(42,.p (.sl (at_.map fun a=>.int .i64 (a:Nat)))),(43,.p (.int .i64 (at_.map fun a=>AV.int .i64 (a:Nat)).length)),(44,.j 0)],[(1,.own 54 1 (List.replicate n .nils)),(0,.own 54 1 (List.replicate n .nils))]⟩) ⟨rfl,rfl⟩
      exact d.trans (Le.of_eq (by rw[Tf,T9];rfl))) (x7p _) ?_
   intro q T;have m:=DQ n at_ q;have v:=DY n at_ q;rcases x7m q at_.length with h|h
   .have o:=q3x n at_ h;have x:=q3j n at_ h;have c:=E _ (x7l h);obtain⟨a,y⟩ : ∃a,at_[q]=a:=⟨_,rfl⟩;rw[y]at o x c;generalize gnC n at_ q=gn at*
    generalize klC n at_ q=kl at*
    have B:(gn.map eN)[a]?=some (eN (gn[a]'(by omega))):=by rw[x7k,x7x (by omega)];rfl
    have C:(kl.map eN)[a]?=some (eN (kl[a]'(by omega))):=by rw[x7k,x7x (by omega)];rfl
    have I:(gn.map eN).length=n:=by rw[x7z,m]
    have J:(kl.map eN).length=n:=by rw[x7z,v]
    generalize gn[a]'(by omega)=o1 at B;generalize kl[a]'(by omega)=o2 at C;conv=>whnf
    repeat' (first|((first|refine x7g rfl ?_|refine aD ?_|refine bP ?_|(refine iA fun _=>?_)|refine wI ?_|refine x8p a (by rw[y]) (by omega) ?_|refine z0d a 0 (eN o1) (.sl [.int .i64 q]) (by omega) B (x7s 1) (by unfold eN;split<;>rfl) ?_|refine z0d a 0 (eN o2) (QB (MO at_.length)) (by omega) C (x7s 1) (by unfold eN;split<;>rfl) ?_);conv=>whnf)|(apply bD<;>intro _<;>first|omega|conv=>whnf))
    all_goals first
     |exact⟨q+1,h,by omega,Le.of_eq (by rw[<-o,<-x];rfl)⟩
   .obtain rfl:q=at_.length:=by omega
    have l:=TS n M steps L O (gnC n at_ at_.length) (klC n at_ at_.length) m v at_.length A (OV n at_ A at_.length (x7s _)) (OE n at_ A at_.length);conv=>whnf
    repeat' (first|((first|(refine iM fun _=>?_)|refine x7g rfl ?_|(refine DO l (.cons (.p (Sub.refl _)) (.cons (.p (Sub.refl _)) (.cons (.sub (.hd rfl (by rw[x7z,DQ])) (Sub.sl (LH _))) (.cons (.sub (.hd rfl (by rw[x7z,DY])) (Sub.sl (LH _))) (.cons (.p (Sub.int (by rw[z]))) .nil))))) ?_;rintro _ ⟨R,U,t,u,rfl⟩));conv=>whnf)|(apply bD<;>intro _<;>first|omega|conv=>whnf))
    all_goals first
     |exact⟨_,.p (Sub.refl _),R,t,u,rfl⟩
     |refine DO l (.cons (.p (Sub.refl _)) (.cons (.p (Sub.refl _)) (.cons (.sub (.hd rfl (by rw[x7z,DQ])) (Sub.sl (LH _))) (.cons (.sub (.hd rfl (by rw[x7z,DY])) (Sub.sl (LH _))) (.cons (.p (Sub.int (by rw[z]))) .nil))))) ?_
end Go.Ab
