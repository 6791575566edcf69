/- Matrices of the call's own: an element stored into a row; a row looked at by an operation. -/
import Derived.Test.YtgpjfppgphaobaaGreatProJ14
set_option linter.all false
set_option maxRecDepth 100000
set_option maxHeartbeats 16000000
namespace Go.Ab
open Go.Proofs.Tryz
open Go.Proofs
variable {α:Type}{N:Nat}{P:Program}{T:Tab}{l:List Int}{o:Oper}
def TL(hT:TabOK P T){s:St}{K:St->Prop}{t:TypeId}{x v:Operand}(hop:o.op=.store t x v)(hd:o.dst=none){k a off:Nat}(hx:QP s.sl x=.ext k (.rptr a off)){u:AV}(hv:QP s.sl v=.p u)(hone:u.one=true)(huc:u.cells=[u]){e e2:TypeId}{rows:List (List AV)}{C:List Nat}(hg:getH s.H k=some (.ext (.mat e e2 1 rows C))){it:TyI}(ht:T.get t=some it)(hsz:it.size=1){row:List AV}(J:rows[a]?=some row)(hnh:a∉C)(hoff:off<row.length)(h:Uu s.H k (.ext (.mat e e2 1 (rows.set a (row.set off u)) C)) fun H=>K ⟨s.sl,H⟩):OpK P N s o K:=by
 refine⟨fun σ β ac w I Q=>?_⟩;obtain⟨H',hK,h1,h2,h3⟩:=UU I.heap.nodup h;have R:=QX I.E x;have O:=QX I.E v;rw[hx]at R;rw[hv]at O;have hk1:=QN hg;generalize hxe:ac.eval x=xv at R;generalize hve:ac.eval v=vv at O;cases O with
 |p hvr=>
 cases R with
 |ext _ _ i _ hi hdx=>
 obtain⟨b,c,n,rfl⟩:=hdx;rcases I.heap.chunks k _ (QH hg)with⟨h0,_⟩|⟨i',vs,hi',hisz,hh,hvs,hle,hmax,hsl',B,r⟩
 .rw [hi]at h0;cases h0
 rw[hi]at hi';cases hi';have hb:i.has b:=.inr ⟨c,x9x n⟩;rcases(r a row J).2 hnh with⟨Z,_⟩|⟨U,c',ws,Z,h5,h6,h7,h8,h9,h10⟩
 .rw [n]at Z;cases Z
 rw[n]at Z;cases Z;have D:vv.oneCell'=true:=hvr.oneCell hone;have F:vv.cells=#[vv]:=by cases vv<;>first|rfl|simp[Value.oneCell']at D
 have hoffw:off<ws.size:=by omega
 let q:Array Value:=(ws.toList.take off++[vv]++ws.toList.drop (off+1)).toArray;have hrun:(execOp ac.eval o).run P w=.ok .skip (w.setRow b q):=by
  have hst:=run_storeCells_at P b off e2 [vv] 0 ws w h6 (by simp;omega) (by simpa using D);simp only[z3q,x9h]at hst;have M:=(hT _ _ ht).sizeOf;simp[execOp,hop,Instr.storeAt,Instr.sureAddr,hxe,hve,storeVar,M,hsz,F,hst,q]
 have A:∀p,q[p]?=if p=off then some vv else ws[p]?:=fun p=>by
  simp only[q,z4j];by_cases g1:p<off
  .rw [if_neg (by omega),x9u,z0f (by simp;omega),z0u,if_pos g1];simp
  .by_cases V:p=off
   .subst V;rw[if_pos rfl,x9u,z0j (by simp;omega)];simp only[x9n,z0a];rw[show p-min p ws.size=0 by omega];rfl
   .rw [if_neg V,z0j (by simp;omega)];simp only[x8d,x9n,z0a,x9h,z0p,z2q];congr 1;omega
 have z:∀U,U≠b->(w.setRow b q).heap[U]?=w.heap[U]?:=fun U hb'=>setRow_other w b U q hb';have hal:a<rows.length:=(x8t.1 J).1;obtain⟨h11,h12⟩:=Il I.heap hk1 hi hb (vs:=q) h1 h2 (fun d hd=>h3 d hd▸by
  refine .inr ⟨i,vs,hi,hisz,(z _ (B a b c n).1).trans hh,hvs,by simpa using hle,hmax,by simpa using hsl',B,fun Y L f=>⟨fun hin=>?_,fun hnin=>?_⟩⟩
  .by_cases g:Y=a
   .subst g;exact absurd hin hnh
   .rw [z0z (z2x g)]at f;exact(r Y L f).1 hin
  .by_cases g:Y=a
   .subst g;rw[x9a hal]at f;cases f;refine .inr ⟨b,c,q,n,by simpa using h5,setRow_heap w b ws _ e2 _ h6,?_,by simpa using h8,h9,fun m y hy=>?_⟩
    .simp only[q,z2l,x8d,x9n,z1k,z0a,x9h];omega
    .by_cases gm:m=off
     .subst gm;rw[x9a hoff]at hy;cases hy;refine⟨by rw[huc];rfl,fun j c' G=>?_⟩;rw[huc]at G
      match j,G with
      |0,G=>cases G;exact⟨vv,by rw[z4w,z3q,A,if_pos rfl],hvr⟩
      |j+1,G=>simp at G
     .rw [z0z (z2x gm)]at hy;obtain⟨g1,V⟩:=h10 m y hy;refine⟨g1,fun j c' G=>?_⟩;obtain⟨u',g3,g4⟩:=V j c' G;have hj0:j=0:=by
       have:=(x8t.1 G).1;omega
      subst hj0;exact⟨u',by rw[A,if_neg (by omega)];exact g3,g4⟩
   .rw [z0z (z2x g)]at f;rcases(r Y L f).2 hnin with g1|⟨b1,c1,ws1,g1,V,g3,g4⟩
    .exact .inl g1
    .refine .inr ⟨b1,c1,ws1,g1,V,(z b1 fun he=>?_).trans g3,g4⟩;subst he;exact g ((B a b1 c n).2 Y c1 g1))
 refine NQ hrun ⟨σ,β,⟨s.sl,H'⟩,hK,⟨?_,?_,?_,h11⟩,h12⟩
 .rw [hd];exact I.size
 .rw [hd];exact I.defers
 .rw [hd];exact I.E
def Fv{s:St}{k n:Nat}{c q:Chunk}{K:St->Prop}(h:GP s k n c q K):∃t,K t/\GP s k n c q fun u=>u=t:=by
 unfold GP at h⊢;obtain⟨sl,v,_⟩:=WC (by rfl) h;have key:∀{f:LV->LV}{l:List (Nat×LV)}{K:List (Nat×LV)->Prop},K5 f l K↔K (l.map fun x=>(x.1,f x.2)):=fun {f} l=>by
  induction l with
  |nil=>intro K;rfl
  |cons x r p=>intro K;simp only[K5,XP,p,x9f]
 have m:∀{f:LV->LV}{c:Chunk}{H:Heap},∃H',∀K:Heap->Prop,W7 k n f c H K↔K H':=fun {f c} H=>by
  induction H with
  |nil=>exact⟨[],fun K=>z4r⟩
  | cons x r p=>
    obtain⟨H',i⟩:=p;obtain⟨j,d⟩:=x;simp only[W7,X7];cases j==n with
    |true=>exact⟨H',fun K=>by simp only[x9y];exact i _⟩
    | false=>
      cases j==k with
      |true=>exact⟨(j,c)::H',fun K=>by simp only[x9y,x9p];exact i _⟩
      |false=>exact⟨(j,d.mapL f)::H',fun K=>by simp only[x9p];exact i _⟩
 rw[key]at h;simp only[key];obtain⟨H',i⟩:=m (f:=LV.xkill k) (c:=c) (H:=s.H);rw[i]at h;exact⟨_,h,(i _).2 rfl⟩
theorem OpK.focus(hT:TabOK P T){s:St}{K:St->Prop}(t k a x:Nat){e e2 sz:Nat}{rows:List (List AV)}{j:List Nat}{row:List AV}(L:ZS x s=true)(F:getH s.H k=some (.ext (.mat e e2 sz rows j)))(v:rows[a]?=some row)(z:a∉j)(u:ZL k=false)(J:getS s.sl t=.ext k (.row a row.length))(h:GP s k x (.ext (.mat e e2 sz rows (a::j))) (.own e2 sz row) fun r=>opW P T N ⟨(t,.hd x 0 row.length)::r.sl,r.H⟩ o K):OpK P N s o K:=by
 obtain⟨r,h,D⟩:=Fv h;refine⟨fun σ β B w g Q=>?_⟩;obtain⟨β',m,I,A,q⟩:=Sg g L F v z u D;have b:Rel N σ β' ⟨(t,.hd x 0 row.length)::r.sl,r.H⟩ B w:=⟨m.size,m.defers,fun i=>by
  show RepL σ β' (getS ((t,.hd x 0 row.length)::r.sl) i) _;simp only[getS];cases G:t==i with
  | true=>
    have:t=i:=by simpa using G
    subst this;have f:=g.E t;rw[J]at f;exact q _ f
  |false=>exact m.E i,m.heap⟩
 exact Oper.wp_mono (fun O w' ⟨σ',β'',M,C,c,y⟩=>⟨σ',β'',M,C,c,I.trans y⟩) (Kj hT h b Q)
def Ru{l m:List α}{j:Nat}(h:l.take j=m.take j)(k:j<l.length)(n:j<m.length)(i:l[j]=m[j]):l.take (j+1)=m.take (j+1):=by
 rw[x8c k,x8c n,h,i]
def TA{l m:List α}{j:Nat}(h:l.take j=m.take j)(i:l.length<=j)(k:m.length<=j):l=m:=by
 rwa[x9q i,x9q k]at h
def JF(l m:List Str):aP 28 [eStrs l,eStrs m] (.bool (decide (l=m))):=by
 refine sC FO func28 ?_;conv=>whnf
 have q:(l.map AV.str).length=l.length:=x8g _;have r:(m.map AV.str).length=m.length:=x8g _;repeat' ((first|(refine iM fun _=>?_)|(apply bE<;>intro _<;>try omega))<;>conv=>whnf)
 all_goals first
  |exact RetK.ff (x9o fun h=>by subst h;omega)
  |skip
 have n:l.length=m.length:=by omega
 refine lI (fun j:Nat=>⟨[(0,.p (eStrs l)),(1,.p (eStrs m)),(12,.p (.int .i64 (l.map AV.str).length)),(13,.j j)],[]⟩) (fun j=>j<=l.length/\l.take j=m.take j) (fun j=>l.length-j) 0 ⟨x8m _,rfl⟩ ?_;rintro j ⟨s,k⟩;rcases x8a j l.length with i|i
 .conv=>whnf
  repeat' ((first|refine dA ?_|(refine gX ?_;intros)|((first|apply bD|apply bN)<;>intro _<;>try omega))<;>conv=>whnf)
  all_goals first
   |exact RetK.ff (x9o fun h=>by subst h;simp_all)
   |exact nX (j+1) ⟨by omega,Ru k i (by omega) (by simp_all)⟩
 .conv=>whnf
  repeat' (apply bD<;>intro _<;>first|omega|conv=>whnf)
  exact RetK.tt (x9e (TA k i (by omega)))
def eBs(l:List Bool):AV:=.sl (l.map bv)
def Qd(b:Bool):(bv b).cells=[bv b]:=by cases b<;>rfl
def FB(l m:List Bool):aP 174 [eBs l,eBs m] (.bool (decide (l=m))):=by
 refine sC GG func174 ?_;conv=>whnf
 have u:(l.map bv).length=l.length:=x8g _;have v:(m.map bv).length=m.length:=x8g _;repeat' ((first|(refine iM fun _=>?_)|(apply bE<;>intro _<;>try omega))<;>conv=>whnf)
 all_goals first
  |exact RetK.ff (x9o fun h=>by subst h;omega)
  |skip
 have s:l.length=m.length:=by omega
 refine lI (fun j:Nat=>⟨[(0,.p (eBs l)),(1,.p (eBs m)),(12,.p (.int .i64 (l.map bv).length)),(13,.j j)],[]⟩) (fun j=>j<=l.length/\l.take j=m.take j) (fun j=>l.length-j) 0 ⟨x8m _,rfl⟩ ?_;rintro j ⟨w,r⟩;rcases x8a j l.length with n|n
 .have q:(l.map bv)[j]?=some (bv l[j]):=by rw[x8n,x8h n];rfl
  have e2:(m.map bv)[j]?=some (bv (m[j]'(by omega))):=by rw[x8n,x8h (by omega)];rfl
  have k:l[j]=m[j]'(by omega)->l.take (j+1)=m.take (j+1):=fun h=>Ru r n (by omega) h;have i:l[j]≠m[j]'(by omega)->¬l=m:=fun h t=>h (by subst t;rfl);generalize l[j]=x at q k i;generalize m[j]'(by omega)=y at e2 k i;cases x<;>cases y <;>
  conv=>whnf
  repeat' ((first|refine dA ?_|refine wI ?_|refine iT q ?_|refine iT e2 ?_|refine KE XD rfl rfl rfl rfl rfl ?_|((first|apply bD|apply bE)<;>intro _<;>try omega))<;>conv=>whnf)
  all_goals first
   |exact RetK.ff (x9o (i (by decide)))
   |exact nX (j+1) ⟨by omega,k rfl⟩
   |(exfalso;simp_all;done)
 .conv=>whnf
  repeat' (apply bD<;>intro _<;>first|omega|conv=>whnf)
  exact RetK.tt (x9e (TA r n (by omega)))
def bmI(fm:List (List Bool)):List (List AV):=fm.map fun r=>r.map bv
def shH(fm:List (List Bool)):Heap:=[(1000,.ext (.mat 101 4 1 (bmI fm) []))]
def GR(fm:List (List Bool))(l:List Int)(b:Nat):Bool:=l.all fun a=>(fm.getD a.toNat []).getD b false
def XN(fm:List (List Bool))(l:List Int)(n:Nat):List Bool:=(List.range n).map (GR fm l)
def Wj(fm:List (List Bool))(l:List Int)(n j:Nat)(c:Bool):List Bool:=(XN fm l n).take j++c::List.replicate (n-j-1) false
def R4{fm:List (List Bool)}{n j:Nat}(k:j<n)(c:Bool):((Wj fm l n j c).map bv)[j]?=some (bv c):=by
 have h:((XN fm l n).take j).length=j:=by unfold XN;simp;omega
 have i:(Wj fm l n j c)[j]?=some c:=by
  unfold Wj;rw[z0j (by omega),h,z2n];rfl
 rw[x8n,i];rfl
def R5{fm:List (List Bool)}{n j:Nat}(h:j<n)(c c':Bool):((Wj fm l n j c).map bv).set j (bv c')=(Wj fm l n j c').map bv:=by
 rw[<-z0q];congr 1;unfold Wj;rw[z1s _ _ (by unfold XN;simp;omega)];have:j-((XN fm l n).take j).length=0:=by unfold XN;simp;omega
 rw[this];rfl
def Ae{fm:List (List Bool)}{n j:Nat}(h:j<n):Wj fm l n j (GR fm l j)=(XN fm l n).take (j+1)++List.replicate (n-(j+1)) false:=by
 unfold Wj;have:(XN fm l n)[j]?=some (GR fm l j):=by unfold XN;simp[h]
 rw[List.take_add_one,this,x9u];rfl
def Aa{fm:List (List Bool)}{n j:Nat}(h:j<n):(XN fm l n).take j++List.replicate (n-j) false=Wj fm l n j false:=by
 unfold Wj;rw[show n-j=(n-j-1)+1 by omega,z2m];congr 2
def B5{f:α->Bool}{l:List α}{i:Nat}(h:i<l.length):(l.take (i+1)).all f=((l.take i).all f&&f l[i]):=by
 rw[x8c h,List.all_append];simp
def AA(fm:List (List Bool))(l:List Int)(n:Nat)(I:fm.length=n)(B:n<=5000)(C:∀r∈fm,r.length=n)(H:l.length<=1000000)(D:∀x∈l,0<=x/\x<n):aH 173 [.hd 1000 0 n,.p (QE l)] (shH fm) (.hd 0 0 n) ((0,.own 4 1 ((XN fm l n).map bv))::shH fm):=by
 refine sK Nd func173 ?_;conv=>whnf
 have A:(l.map (AV.int .i64)).length=l.length:=x8g _;repeat' ((first|(refine gX ?_;intros)|refine z3k n rfl (by show 1*_<=140737488355328;omega) (by unfold maxLen;omega) ?_)<;>conv=>whnf)
 refine lJ (fun j:Nat=>⟨[(0,.hd 1000 0 n),(1,.p (QE l)),(5,.hd 0 0 n),(13,.j n),(14,.j j)],(0,.own 4 1 (((XN fm l n).take j++List.replicate (n-j) false).map bv))::shH fm⟩) (fun j=>j<=n) (fun j=>n-j) 0 (Le.of_eq (by rw[show((XN fm l n).take 0++List.replicate (n-0) false).map bv=List.replicate n .ff by simp[bv]];rfl)) (x8m _) ?_;intro j F;rcases x8a j n with h|h;rotate_left 1
 .have q:j=n:=by omega
  subst q;have f:((XN fm l j).take j++List.replicate (j-j) false)=XN fm l j:=by
   rw[z2n,x9q (by unfold XN;simp)];simp
  rw[f];conv=>whnf
  repeat' (apply bD<;>intro _<;>first|omega|conv=>whnf)
  exact⟨_,x9j _,rfl,rfl⟩
 rw[Aa h];have w:=R4 (fm:=fm) (l:=l) h false;have z:=R5 (fm:=fm) (l:=l) h false true;generalize(Wj fm l n j false).map bv=row0 at w z⊢;unfold shH;conv=>whnf
 repeat' ((first|(refine gX ?_;intros)|refine z1x j rfl h ?_|refine z3v j 0 _ (bv true) (by show(0+j)*1=j*1+0;omega) w (x9z _) rfl ?_|(apply bD<;>intro _<;>try omega))<;>conv=>whnf)
 rw[z];refine lI (fun i:Nat=>⟨[(0,.hd 1000 0 n),(1,.p (QE l)),(5,.hd 0 0 n),(6,.j j),(13,.j n),(14,.j j),(20,.p (QE l)),(21,.p (.int .i64 (l.map (AV.int .i64)).length)),(22,.j i)],(0,.own 4 1 ((Wj fm l n j ((l.take i).all fun a=>(fm.getD a.toNat []).getD j false)).map bv))::shH fm⟩) (fun i=>i<=l.length) (fun i=>l.length-i) 0 (x8m _) ?_;intro i G;rcases x8a i l.length with y|y;rotate_left 1
 .have q:i=l.length:=by omega
  subst q;rw[x9q (x9z _),show(l.all fun a=>(fm.getD a.toNat []).getD j false)=GR fm l j from rfl,Ae h];conv=>whnf
  repeat' ((first|refine wI ?_|(apply bD<;>intro _<;>try omega))<;>conv=>whnf)
  exact nX (j+1) h
 have E:=D _ (x8o y);have m:l[i].toNat<fm.length:=by omega
 have d:=C _ (x8o m);have g:(l.map (AV.int .i64))[i]?=some (.int .i64 l[i]):=by rw[x8n,x8h y];rfl
 have t:(bmI fm)[l[i].toNat]?=some (fm[l[i].toNat].map bv):=by unfold bmI;rw[x8n,x8h m];rfl
 have u:(fm[l[i].toNat].map bv)[j]?=some (bv (fm[l[i].toNat][j]'(by omega))):=by rw[x8n,x8h (by omega)];rfl
 have s:((l.take (i+1)).all fun a=>(fm.getD a.toNat []).getD j false)=(((l.take i).all fun a=>(fm.getD a.toNat []).getD j false)&&fm[l[i].toNat][j]'(by omega)):=by
  rw[B5 y];congr 1;simp only[x8f];rw[x8h m,x9i,x8h (by omega),x9i]
 have e:(fm[l[i].toNat].map bv).length=n:=by rw[x8g,d]
 generalize fm[l[i].toNat][j]'(by omega)=v at u s;generalize((l.take i).all fun a=>(fm.getD a.toNat []).getD j false)=c at s⊢;have k:=R4 (fm:=fm) (l:=l) h c;have b:=R5 (fm:=fm) (l:=l) h c (c&&v);generalize(Wj fm l n j c).map bv=row at k b⊢;cases c<;>cases v<;>unfold shH <;>
 conv=>whnf
 repeat' ((first|(refine gX ?_;intros)|refine z1x j rfl h ?_|refine z1x l[i].toNat (by omega) (by omega) ?_|refine z1x j rfl (by rw[e];exact h) ?_|refine z5m j 0 _ (by show(0+j)*1=j*1+0;omega) k ?_|refine z3d l[i].toNat _ (by omega) t (by simp) ?_|refine RLd.mk _ j 0 _ t (by simp) (by omega) u ?_|refine z3v j 0 _ (bv false) (by show(0+j)*1=j*1+0;omega) k (x9z _) rfl ?_|refine z3v j 0 _ (bv true) (by show(0+j)*1=j*1+0;omega) k (x9z _) rfl ?_|(apply bD<;>intro _<;>try omega))<;>conv=>whnf)
 all_goals first
  |exact⟨i+1,y,by omega,Le.of_eq (by rw[s,<-b];rfl)⟩
  |(exfalso;simp_all;done)
def filRow(n a:Nat):List Bool:=(List.range n).map fun b=>decide (a<n-1)||decide (a=b)
def PJ(n a:Nat):(filRow n a).length=n:=by unfold filRow;simp
inductive Avd(nx:List (List Int))(n b:Nat):Nat->Prop
 |exit (h:b≠n-1):Avd nx n b (n-1)
 |step {a t:Nat} (hab:a≠b) (ht:(t:Int)∈nx.getD a []) (h:Avd nx n b t):Avd nx n b a
def rowF(n:Nat)(nx:List (List Int))(fm:List (List Bool))(a:Nat):List Bool:=(XN fm (nx.getD a []) n).set a true
def bitF(fm:List (List Bool))(a b:Nat):Bool:=(fm.getD a []).getD b false
def Y1(n:Nat)(nx:List (List Int))(fm:List (List Bool))(a:Nat):(rowF n nx fm a).length=n:=by unfold rowF XN;simp
def Pw{n:Nat}{nx:List (List Int)}{fm:List (List Bool)}{a b:Nat}(i:b<n):(rowF n nx fm a).getD b false=(decide (a=b)||GR fm (nx.getD a []) b):=by
 unfold rowF;have j:(XN fm (nx.getD a []) n)[b]?=some (GR fm (nx.getD a []) b):=by unfold XN;simp[i]
 have k:(XN fm (nx.getD a []) n).length=n:=by unfold XN;simp
 rw[x8f];by_cases h:a=b
 .subst h;rw[x9a (by omega),x9e rfl];rfl
 .rw [z0z h,j,x9o h];rfl
def PR{fm:List (List Bool)}{b:Nat}:GR fm l b=true ↔ ∀t∈l,bitF fm t.toNat b=true:=by
 unfold GR bitF;rw[z0k]
structure FolI(n:Nat)(nx:List (List Int))(fm:List (List Bool)):Prop where
 len:fm.length=n
 rows:∀r∈fm,r.length=n
 last:fm.getD (n-1) []=filRow n (n-1)
 post:∀a b,a<n-1->b<n->(rowF n nx fm a).getD b false=true->bitF fm a b=true
 min:∀a b,a<n->b<n->bitF fm a b=false->Avd nx n b a
structure FollowP(n:Nat)(nx:List (List Int))(fm:List (List Bool)):Prop where
 inv:FolI n nx fm
 fix:∀a,a<n-1->fm.getD a []=rowF n nx fm a
def Fq{n a b:Nat}(h:b<n):(filRow n a).getD b false=(decide (a<n-1)||decide (a=b)):=by
 unfold filRow;rw[x8f,x8n,z2w h];rfl
def EO{n a b:Nat}(ha:a<n)(h:b<n):bitF ((List.range n).map (filRow n)) a b=(decide (a<n-1)||decide (a=b)):=by
 have i:((List.range n).map (filRow n)).getD a []=filRow n a:=by
  rw[x8f,x8n,z2w ha];rfl
 unfold bitF;rw[i,Fq h]
theorem FolI.start{n:Nat}(m:2<=n)(nx:List (List Int)):FolI n nx ((List.range n).map (filRow n)):=by
 refine⟨by simp,fun r j=>?_,?_,fun a b ha i _=>?_,fun a b ha i h=>?_⟩
 .obtain ⟨a,_,rfl⟩:=x8s.1 j;exact PJ n a
 .rw [x8f,x8n,z2w (by omega)];rfl
 .rw [EO (by omega) i,x9e ha];rfl
 .rw [EO ha i,z3f,z1r,z1r]at h;have:a=n-1:=by omega
  subst this;exact .exit fun e=>h.2 e.symm
def B9{fm:List (List Bool)}{a:Nat}(ha:a<fm.length)(l:List Bool)(x b:Nat):bitF (fm.set a l) x b=if x=a then l.getD b false else bitF fm x b:=by
 unfold bitF;by_cases h:x=a
 .subst h;rw[if_pos rfl,x8f (l:=fm.set x l),x9a ha];rfl
 .rw [if_neg h,x8f (l:=fm.set a l),z0z (z2x h),<-x8f]
theorem FolI.step{n:Nat}{nx:List (List Int)}{fm:List (List Bool)}(h:FolI n nx fm)(f:∀a,∀x∈nx.getD a [],0<=x/\x<(n:Int)){a:Nat}(ha:a<n-1):FolI n nx (fm.set a (rowF n nx fm a)):=by
 have m:a<fm.length:=by have:=h.len;omega
 have mono:∀x b,b<n->bitF (fm.set a (rowF n nx fm a)) x b=true->bitF fm x b=true:=fun x b j i=>by
  rw[B9 m]at i;split at i
  .rename_i y;subst y;exact h.post _ b ha j i
  .exact i
 have v:∀x b,b<n->(rowF n nx (fm.set a (rowF n nx fm a)) x).getD b false=true->(rowF n nx fm x).getD b false=true:=fun x b j i=>by
  rw[Pw j,z2s]at i⊢;rcases i with i|i
  .exact .inl i
  .exact .inr (PR.2 fun t g=>mono _ b j (PR.1 i t g))
 refine⟨by rw[z0m];exact h.len,fun r u=>?_,?_,fun x b i j u=>?_,fun x b i j q=>?_⟩
 .rcases z1d u with u|rfl
  .exact h.rows r u
  .exact Y1 _ _ _ _
 .rw [x8f,z0z (by omega),<-x8f];exact h.last
 .have B:=v x b j u;rw[B9 m];split
  .rename_i y;subst y;exact B
  .exact h.post x b i j B
 .rw [B9 m]at q;split at q
  .rename_i y;subst y;rw[Pw j,z3f,z1r]at q;have e:¬∀t∈nx.getD x [],bitF fm t.toNat b=true:=fun w=>by
    rw[PR.2 w]at q;cases q.2
   obtain⟨t,g⟩:=Classical.not_forall.1 e;obtain⟨z,A⟩:=Classical.not_imp.1 g;have u:=f x t z;have c:bitF fm t.toNat b=false:=by cases C:bitF fm t.toNat b with|true=>exact absurd C A|false=>rfl
   exact .step q.1 (by rw[z3o u.1];exact z) (h.min t.toNat b (by omega) j c)
  .exact h.min x b i j q
def S6(fm:List (List Bool)):Nat:=(fm.map fun r=>r.count true).sum
def q7r{fm:List (List Bool)}{a:Nat}(ha:a<fm.length)(l:List Bool):S6 (fm.set a l)+(fm.getD a []).count true=S6 fm+l.count true:=by
 unfold S6;induction fm generalizing a with
 |nil=>simp at ha
 | cons r fm h=>
   cases a with
   |zero=>simp;omega
   | succ a=>
     have:=h (a:=a) (by simpa using ha);simp only[List.set_cons_succ,x9f,z4g,List.getD_cons_succ];omega
theorem Bz:∀{r s:List Bool},r.length=s.length->(∀b:Nat,r.getD b false=true->s.getD b false=true)->r≠s->r.count true<s.count true
 |[],[],_,_,h=>absurd rfl h
 | x::r,y::s,hl,hle,hne=>by
   have j:=hle 0;have m:∀b:Nat,r.getD b false=true->s.getD b false=true:=fun b n=>hle (b+1) n;have k:r.count true<=s.count true:=by
    by_cases i:r=s
    .subst i;exact x9z _
    .exact Nat.le_of_lt (Bz (by simpa using hl) m i)
   simp only[List.getD_cons_zero]at j;by_cases i:r=s
   .subst i;cases x<;>cases y
    .exact absurd rfl hne
    .simp
    .cases j rfl
    .exact absurd rfl hne
   .have:=Bz (by simpa using hl) m i;cases x<;>cases y<;>simp_all<;>omega
theorem FolI.less{n:Nat}{nx:List (List Int)}{fm:List (List Bool)}(h:FolI n nx fm){a:Nat}(ha:a<n-1)(q:rowF n nx fm a≠fm.getD a []):S6 (fm.set a (rowF n nx fm a))<S6 fm:=by
 have i:a<fm.length:=by have:=h.len;omega
 have u:=q7r i (rowF n nx fm a);have t:(fm.getD a []).length=n:=by
  rw[x8f,x8h i];exact h.rows _ (x8o i)
 have v:=Bz (r:=rowF n nx fm a) (s:=fm.getD a []) (by rw[Y1,t]) (fun b m=>by
  rcases x8a b n with j|j
  .exact h.post a b ha j m
  .rw [x8f,z0d (by rw[Y1];exact j)]at m;cases m) q
 omega
def I2{E:Int->Int->Prop}{B:List Int}{u x:Int}(h:Rch E u x)(s:u∈B)(k:x∉B):∃z y,z∈B/\E z y/\y∉B/\Rch E u y/\Rch E y x:=by
 induction h with
 |refl=>exact absurd s k
 | @tail b c h i t=>
   by_cases j:b∈B
   .exact ⟨b,c,j,i,k,.tail h i,.refl⟩
   .obtain ⟨z,y,m,n,p,q,r⟩:=t j;exact⟨z,y,m,n,p,q,.tail r i⟩
def chainE(E:Int->Int->Prop):List Int->Prop
 |[]=>True
 |[_]=>True
 |a::b::r=>E a b/\chainE E (b::r)
theorem MM{E:Int->Int->Prop}:∀(l:List Int){a y:Int},chainE E (l++[a])->y∈l++[a]->Rch E y a
 | [],a,y,_,i=>by
   simp at i;rw[i];exact .refl
 | [b],a,y,h,i=>by
   simp at i;rcases i with rfl|rfl
   .exact .tail .refl h.1
   .exact .refl
 | b::c::r,a,y,h,i=>by
   have j:chainE E ((c::r)++[a]):=h.2;rcases x8r.1 i with rfl|i
   .exact .head h.1 (MM (c::r) j (by simp))
   .exact MM (c::r) j i
theorem Ye{E:Int->Int->Prop}:∀(l:List Int){a b:Int},chainE E (l++[a])->E a b->chainE E (l++[a]++[b])
 |[],a,b,_,hb=>⟨hb,trivial⟩
 |[c],a,b,h,hb=>⟨h.1,hb,trivial⟩
 |c::d::r,a,b,h,hb=>⟨h.1,Ye (d::r) h.2 hb⟩
theorem Hs{E:Int->Int->Prop}:∀(l:List Int){a:Int},chainE E (l++[a])->chainE E l
 |[],_,_=>trivial
 |[_],_,_=>trivial
 |c::d::r,_,h=>⟨h.1,Hs (d::r) h.2⟩
structure DfsI(n:Nat)(E:Int->Int->Prop)(out stack:List Int):Prop where
 nd:(out++stack).Nodup
 rng:∀x∈out++stack,0<=x/\x<n
 path:chainE E stack
 cl:∀u∈out,∀v,E u v->v∈out\/v∈stack
 J:∀u∈out,∀x,Rch E u x->x∉out->∃s∈stack,Rch E u s/\Rch E s u/\Rch E s x
 K:∀(i:Nat)(r:Int),out[i]?=some r->∀u,Rch E u r->Rch E r u\/∃u',Rch E u u'/\Rch E u' u/\(u'∉out\/∃j,i<j/\out[j]?=some u')
theorem DfsI.start(n:Nat)(E:Int->Int->Prop):DfsI n E [] []:=⟨by simp,by simp,trivial,by simp,by simp,by simp⟩
theorem DfsI.push{n:Nat}{E:Int->Int->Prop}{out stack:List Int}(h:DfsI n E out stack){b:Int}(t:0<=b/\b<n)(w:b∉out++stack)(z:chainE E (stack++[b])):DfsI n E out (stack++[b]):=by
 refine⟨?_,fun x i=>?_,z,fun u m v a=>?_,fun u m x i q=>?_,h.K⟩
 .rw [<-x9u,z1m];refine⟨h.nd,by simp,fun x i y c=>?_⟩;rw[x8l.1 c];exact fun e=>w (e▸i)
 .rw [<-x9u]at i;rcases x8e.1 i with i|i
  .exact h.rng x i
  .rw [x8l.1 i];exact t
 .rcases h.cl u m v a with j|j
  .exact .inl j
  .exact .inr (x8e.2 (.inl j))
 .obtain ⟨s,j,r⟩:=h.J u m x i q;exact⟨s,x8e.2 (.inl j),r⟩
theorem DfsI.pop{n:Nat}{E:Int->Int->Prop}{out st:List Int}{a:Int}(h:DfsI n E out (st++[a]))(ha:∀v,E a v->v∈out\/v∈st++[a]):DfsI n E (out++[a]) st:=by
 have hnd:=h.nd;rw[z1m]at hnd;obtain⟨Y,O,B⟩:=hnd;rw[z1m]at O;obtain⟨Z,_,hn5⟩:=O;have V:a∉out:=fun q=>B a q a (by simp) rfl;have D:a∉st:=fun q=>hn5 a q a (by simp) rfl;have I:∀u∈out++[a],∀v,E u v->v∈out++[a]\/v∈st:=fun u w v hv=>by
  have:v∈out\/v∈st++[a]:=by
   rcases x8e.1 w with w|w
   .exact h.cl u w v hv
   .rw [x8l.1 w]at hv;exact ha v hv
  rcases this with m|m
  .exact .inl (x8e.2 (.inl m))
  .rcases x8e.1 m with m|m
   .exact .inr m
   .exact .inl (x8e.2 (.inr m))
 have L:∀u∈out++[a],∀x,Rch E u x->x∉out++[a]->∃y∈st,Rch E u y/\Rch E y x:=fun u w x f F=>by
  obtain⟨z,y,m,C,b,t,G⟩:=I2 f w F;rcases I z m y C with c|c
  .exact absurd c b
  .exact ⟨y,c,t,G⟩
 have U:∀y∈st,Rch E y a:=fun y H=>MM st h.path (x8e.2 (.inl H));refine⟨?_,fun x f=>?_,Hs st h.path,I,fun u w x f F=>?_,fun i r M u w=>?_⟩
 .rw [x9u,z1m];refine⟨Y,?_,fun x f y H=>B x f y (by simp at H⊢;exact H.symm)⟩;rw[z1m];refine⟨by simp,Z,fun x f y H e=>?_⟩;rw[x8l.1 f]at e;exact D (e▸H)
 .refine h.rng x ?_;simp only[x8e,x8l]at f⊢;rcases f with(m|m)|m
  .exact .inl m
  .exact .inr (.inr m)
  .exact .inr (.inl m)
 .obtain ⟨y,m,C,b⟩:=L u w x f F;rcases x8e.1 w with w|w
  .have hyo:y∉out:=fun q=>B y q y (x8e.2 (.inl m)) rfl;obtain⟨s,t,G,c,h7⟩:=h.J u w y C hyo;rcases x8e.1 t with t|t
   .exact ⟨s,t,G,c,h7.trans b⟩
   .rw [x8l.1 t]at G c;exact⟨y,m,C,(U y m).trans c,b⟩
  .rw [x8l.1 w]at C⊢;exact⟨y,m,C,U y m,b⟩
 .rcases x8a i out.length with A|A
  .rw [z0f A]at M;rcases h.K i r M u w with m|⟨u',m,C,b⟩
   .exact .inl m
   .refine .inr ⟨u',m,C,?_⟩;rcases b with b|⟨j,b,t⟩
    .by_cases Q:u'=a
     .exact .inr ⟨out.length,A,by rw[Q];simp⟩
     .exact .inl fun q=>by
       rcases x8e.1 q with q|q
       .exact b q
       .exact Q (x8l.1 q)
    .exact .inr ⟨j,b,by rw[z0f (x8t.1 t).1];exact t⟩
  .have hr:r=a:=by
    have m:=(x8t.1 M).1;simp at m;rw[z0j A,show i-out.length=0 by omega]at M;simpa using M.symm
   subst hr;by_cases g:Rch E r u
   .exact .inl g
   .right;by_cases R:u∈out
    .obtain ⟨s,t,G,c,h7⟩:=h.J u R r w V;rcases x8e.1 t with t|t
     .refine ⟨s,G,c,.inl fun q=>?_⟩;rcases x8e.1 q with q|q
      .exact B s q s (x8e.2 (.inl t)) rfl
      .rw [x8l.1 q]at t;exact D t
     .rw [x8l.1 t]at c;exact absurd c g
    .refine ⟨u,.refl,.refl,.inl fun q=>?_⟩;rcases x8e.1 q with q|q
     .exact R q
     .rw [x8l.1 q]at g;exact g .refl
structure EndsP(n:Nat)(E:Int->Int->Prop)(es:List Int):Prop where
 nd:es.Nodup
 mem:∀x:Int,x∈es↔0<=x/\x<n
 K:∀(i:Nat)(r:Int),es[i]?=some r->∀u:Int,0<=u/\u<n->Rch E u r->Rch E r u\/∃u',Rch E u u'/\Rch E u' u/\∃j,i<j/\es[j]?=some u'
theorem DfsI.fin{n:Nat}{E:Int->Int->Prop}(w:∀x y,E x y->0<=y/\y<n){out:List Int}(h:DfsI n E out [])(j:∀x:Int,0<=x/\x<n->x∈out):EndsP n E out:=by
 refine⟨by simpa using h.nd,fun x=>⟨fun c=>h.rng x (by simpa using c),j x⟩,fun i r z u t b=>?_⟩;rcases h.K i r z u b with q|⟨e,q,v,m⟩
 .exact .inl q
 .refine .inr ⟨e,q,v,?_⟩;rcases m with m|m
  .exfalso;apply m;apply j;cases q with
   |refl=>exact t
   |tail _ a=>exact w _ _ a
  .exact m
def sccP(E:Int->Int->Prop)(x y:Int):Prop:=Rch E x y/\Rch E y x
theorem sccP.refl{E:Int->Int->Prop}(x:Int):sccP E x x:=⟨.refl,.refl⟩
theorem sccP.symm{E:Int->Int->Prop}{x y:Int}(h:sccP E x y):sccP E y x:=⟨h.2,h.1⟩
theorem sccP.trans{E:Int->Int->Prop}{x y z:Int}(h:sccP E x y)(i:sccP E y z):sccP E x z:=⟨h.1.trans i.1,i.2.trans h.2⟩
def SeenP(E:Int->Int->Prop)(es:List Int)(i:Nat)(x:Int):Prop:=∃(j:Nat) (y:Int),i<=j/\es[j]?=some y/\sccP E x y
def Ee{n:Nat}{E:Int->Int->Prop}(f:∀x y,E x y->(0<=x/\x<n)/\0<=y/\y<n){es:List Int}(h:EndsP n E es){i:Nat}{r:Int}(d:es[i]?=some r)(e:¬SeenP E es (i+1) r)(x:Int):
  Rch (fun a b=>E b a/\¬SeenP E es (i+1) b) r x↔sccP E r x:=by
 have w:=(h.mem r).1 (x9x d);constructor
 .intro g;have key:(0<=x/\x<n)/\¬SeenP E es (i+1) x/\Rch E x r:=g.closed (S:=fun x:Int=>(0<=x/\x<n)/\¬SeenP E es (i+1) x/\Rch E x r) (fun a b ⟨q,u,k⟩ ⟨m,s⟩=>⟨(f _ _ m).1,s,.head m k⟩) ⟨w,e,.refl⟩;refine⟨?_,key.2.2⟩;rcases h.K i r d x key.1 key.2.2 with q|⟨C,q,u,j,k,m⟩
  .exact q
  .exact absurd ⟨j,C,k,m,q,u⟩ key.2.1
 .rintro ⟨q,u⟩;have v:∀y,sccP E r y->¬SeenP E es (i+1) y:=fun y A ⟨j,z,k,m,s⟩=>e ⟨j,z,k,m,A.trans s⟩;have key:∀{a b:Int},Rch E a b->Rch E r a->Rch E b r->Rch (fun a b=>E b a/\¬SeenP E es (i+1) b) b a:=fun {a b} p=>by
   induction p with
   |refl=>intro _ _;exact .refl
   | @tail b c p t B=>
     intro k m;have s:Rch E b r:=.head t m;exact .head ⟨t,v b ⟨k.trans p,s⟩⟩ (B k s)
  exact key u q .refl
def Ob{E:Int->Int->Prop}{es:List Int}{i:Nat}{r:Int}(u:es[i]?=some r)(v:SeenP E es (i+1) r)(x:Int):SeenP E es i x↔SeenP E es (i+1) x:=by
 constructor
 .rintro ⟨j,y,p,h,m⟩;rcases Nat.eq_or_lt_of_le p with n|n
  .subst n;rw[u]at h;cases h;obtain⟨k,z,q,s,t⟩:=v;exact⟨k,z,q,s,m.trans t⟩
  .exact ⟨j,y,n,h,m⟩
 .rintro ⟨j,y,p,h,m⟩;exact⟨j,y,by omega,h,m⟩
def R2{E:Int->Int->Prop}{es:List Int}{i:Nat}{r:Int}(q:es[i]?=some r)(x:Int):SeenP E es i x↔SeenP E es (i+1) x\/sccP E r x:=by
 constructor
 .rintro ⟨j,y,p,k,m⟩;rcases Nat.eq_or_lt_of_le p with n|n
  .subst n;rw[q]at k;cases k;exact .inr m.symm
  .exact .inl ⟨j,y,n,k,m⟩
 .rintro (⟨j,y,p,k,m⟩|h)
  .exact ⟨j,y,by omega,k,m⟩
  .exact ⟨i,r,x9z _,q,h.symm⟩
def q4s{n:Nat}{E:Int->Int->Prop}{es:List Int}(h:EndsP n E es){x:Int}(k:0<=x/\x<n):SeenP E es 0 x:=by
 obtain⟨j,i⟩:=z1g.1 ((h.mem x).2 k);exact⟨j,x,x8m _,i,.refl x⟩
def rowE(rows:List (List Int))(x y:Int):Prop:=0<=x/\Pu rows x y
structure EndI(n:Nat)(rows:List (List Int))(out stack:List Int)(seen:List Bool)(at_:List Int):Prop where
 dfs:DfsI n (rowE rows) out stack
 sl:seen.length=n
 al:at_.length=n
 seen:∀x:Int,0<=x/\x<n->(seen.getD x.toNat false=true↔x∈out++stack)
 arng:∀x:Int,0<=x/\x<n->0<=at_.getD x.toNat 0/\at_.getD x.toNat 0<=(rows.getD x.toNat []).length
 cur:∀x:Int,0<=x/\x<n->∀(i:Nat)(y:Int),(i:Int)<at_.getD x.toNat 0->(rows.getD x.toNat [])[i]?=some y->y∈out++stack
theorem EndI.start(n:Nat)(rows:List (List Int)):EndI n rows [] [] (List.replicate n false) (List.replicate n 0):=by
 have j:∀x:Int,(List.replicate n (0:Int)).getD x.toNat 0=0:=fun x=>by
  rw[x8f,x9l];split<;>rfl
 refine⟨DfsI.start n _,by simp,by simp,fun x m=>?_,fun x m=>by rw[j];omega,fun x m i y q=>by rw[j]at q;omega⟩;rw[x8f,x9l];split<;>simp
def WJ{l:List α}{i j:Nat}{a d:α}(k:i<l.length):(l.set i a).getD j d=if i=j then a else l.getD j d:=by
 simp only[x8f,z3i];split
 .rename_i h;first
   |rfl
   |(rw[if_pos k];rfl)
 .rfl
theorem EndI.push{n:Nat}{rows:List (List Int)}{out stack:List Int}{seen:List Bool}{at_:List Int}(h:EndI n rows out stack seen at_){b:Int}(q:0<=b/\b<n)(r:seen.getD b.toNat false=false)(v:chainE (rowE rows) (stack++[b])):EndI n rows out (stack++[b]) (seen.set b.toNat true) at_:=by
 have j:b∉out++stack:=fun u=>by rw[(h.seen b q).2 u]at r;cases r
 refine⟨h.dfs.push q j v,by simpa using h.sl,h.al,fun x m=>?_,h.arng,fun x m i y t w=>?_⟩
 .rw [WJ (by rw[h.sl];omega),<-x9u,x8e,x8l];split
  .have:x=b:=by omega
   simp[this]
  .have:x≠b:=by omega
   rw[h.seen x m];simp[this]
 .rw [<-x9u];exact x8e.2 (.inl (h.cur x m i y t w))
theorem EndI.pop{n:Nat}{rows:List (List Int)}{out st:List Int}{a:Int}{seen:List Bool}{at_:List Int}(h:EndI n rows out (st++[a]) seen at_)(ha:at_.getD a.toNat 0=(rows.getD a.toNat []).length):EndI n rows (out++[a]) st seen at_:=by
 have t:=h.dfs.rng a (by simp);have m:∀x:Int,x∈out++[a]++st↔x∈out++(st++[a]):=fun x=>by
  simp only[x8e,x8l];constructor
  .rintro ((j|j)|j)
   .exact .inl j
   .exact .inr (.inr j)
   .exact .inr (.inl j)
  .rintro (j|j|j)
   .exact .inl (.inl j)
   .exact .inr j
   .exact .inl (.inr j)
 refine⟨h.dfs.pop fun v u=>?_,h.sl,h.al,fun x r=>by rw[h.seen x r,m],h.arng,fun x r i y q w=>(m y).2 (h.cur x r i y q w)⟩;obtain⟨i,q⟩:=z1g.1 u.2;have:=h.cur a t i v (by rw[ha];have:=(x8t.1 q).1;omega) q;exact x8e.1 this
theorem EndI.step{n:Nat}{rows:List (List Int)}{out stack:List Int}{seen:List Bool}{at_:List Int}(h:EndI n rows out stack seen at_){a b:Int}(ha:0<=a/\a<n){k:Nat}(z:at_.getD a.toNat 0=k)(v:(rows.getD a.toNat [])[k]?=some b)(w:b∈out++stack):EndI n rows out stack seen (at_.set a.toNat ((k:Int)+1)):=by
 have j:a.toNat<at_.length:=by rw[h.al];omega
 refine⟨h.dfs,h.sl,by simpa using h.al,h.seen,fun x u=>?_,fun x u i y r m=>?_⟩
 .rw [WJ j];split
  .rename_i q;have:=(x8t.1 v).1;rw[<-q];omega
  .exact h.arng x u
 .rw [WJ j]at r;split at r
  .rename_i q;rw[<-q]at m;rcases x8a i k with t|t
   .exact h.cur a ha i y (by omega) m
   .have:i=k:=by omega
    subst this;rw[v]at m;cases m;exact w
  .exact h.cur x u i y r m
def q6d(m:Int)(l:List Int):Int:=l.foldl (fun m x=>if x<m then x else m) m
def N5:List Int->Int
 |[]=>0
 |a::r=>q6d a r
theorem L1:∀(l:List Int)(m:Int),q6d m l∈m::l/\∀x∈m::l,q6d m l<=x
 |[],m=>⟨by simp[q6d],by simp[q6d]⟩
 | a::r,m=>by
   obtain⟨n,j⟩:=L1 r (if a<m then a else m);have e:q6d m (a::r)=q6d (if a<m then a else m) r:=rfl;have k:=j _ x8p;rw[e];generalize q6d (if a<m then a else m) r=z at n j k⊢;refine⟨?_,fun x i=>?_⟩
   .rcases x8r.1 n with h|h
    .rw [h];split<;>simp
    .exact x8b _ (x8b _ h)
   .rcases x8r.1 i with rfl|i
    .split at k<;>omega
    .rcases x8r.1 i with rfl|i
     .split at k<;>omega
     .exact j x (x8b _ i)
def L2(h:0<l.length):N5 l∈l/\∀x∈l,N5 l<=x:=by
 cases l with
 |nil=>simp at h
 |cons a r=>exact L1 r a
theorem OpK.min2{P:Program}{N:Nat}{s:St}{o:Oper}{K:St->Prop}{x y:Operand}{e:Array TypeId}(j:o.op=.call {callee:=.builtin .min,args:=#[x,y],argTypes:=e}){m n:Int}(b:QP s.sl x=.p (.int .i64 m))(c:QP s.sl y=.p (.int .i64 n))(h:setD N s.sl o.dst (.p (.int .i64 (if n<m then n else m))) fun sl=>K ⟨sl,s.H⟩):OpK P N s o K:=by
 refine⟨fun σ β a w q Q=>?_⟩;have t:=QX q.E x;have u:=QX q.E y;rw[b]at t;rw[c]at u;have v:=t.int;have e2:=u.int;have i:(execOp a.eval o).run P w=.ok (.value (.int .i64 (if n<m then n else m))) w:=by
  simp[execOp,j,resolve,invoke,builtin,v,e2,Builtin.min_,Builtin.min2]
 obtain⟨sl,z,r⟩:=q.setD (.p (.int .i64 (if n<m then n else m))) h;exact XS i ⟨σ,β,_,z,r,Later.refl _ _ _ _⟩
def LF(l:List Int)(n:0<l.length):aP 274 [QE l] (.int .i64 (N5 l)):=by
 refine sC DK func274 ?_;conv=>whnf
 have t:(l.map (AV.int .i64)).length=l.length:=x8g _;repeat' ((first|(refine iM fun _=>?_)|(apply bD<;>intro _<;>try omega))<;>conv=>whnf)
 refine IdxK.at (k:=0) (e:=.int .i64 l[0]) rfl (by simp[n]) rfl ?_;conv=>whnf
 skip
 refine lI (fun x:Nat×Int=>⟨[(0,.p (QE l)),(3,.j x.2),(4,.j x.1)],[]⟩) (fun x=>1<=x.1/\x.1<=l.length/\N5 (x.2::l.drop x.1)=N5 l) (fun x=>l.length-x.1) (1,l[0]) ⟨x9z _,n,by
  cases l with
  |nil=>simp at n
  |cons a r=>rfl⟩ ?_
 rintro⟨j,m⟩ ⟨q,s,h⟩;simp only at q s h⊢;rcases x8a j l.length with i|i
 .rw [QD i]at h;conv=>whnf
  repeat' ((first|(refine gX ?_;intros)|refine OpK.min2 rfl rfl rfl ?_|(apply bD<;>intro _<;>try omega))<;>conv=>whnf)
  exact nX (j+1,if l[j]<m then l[j]else m) ⟨by simp only;omega,i,h⟩
 .rw [x9v i]at h;conv=>whnf
  repeat' ((first|(refine iM fun _=>?_)|(apply bD<;>intro _<;>try omega))<;>conv=>whnf)
  exact RetK.int h
theorem q6e{α:Type}{f g:α->Nat}:∀{l:List α},(∀x∈l,f x<=g x)->(∃x∈l,f x<g x)->(l.map f).sum<(l.map g).sum
 |[],_,h=>by obtain⟨x,i,_⟩:=h;cases i
 | a::r,h1,h2=>by
   have j:∀{l:List α},(∀x∈l,f x<=g x)->(l.map f).sum<=(l.map g).sum:=fun {l} h=>by
    induction l with
    |nil=>simp
    | cons b r n=>
      simp only[x9f,z4g];have:=n fun x i=>h x (x8b _ i);have:=h b x8p;omega
   simp only[x9f,z4g];have p:=h1 a x8p;have q:=j fun x i=>h1 x (x8b _ i);obtain⟨x,i,k⟩:=h2;rcases x8r.1 i with rfl|i
   .omega
   .have:=q6e (fun y m=>h1 y (x8b _ m)) ⟨x,i,k⟩;omega
def muE(rows:List (List Int))(at_:List Int)(n:Nat):Nat:=((List.range n).map fun i=>(rows.getD i []).length-(at_.getD i 0).toNat).sum
def q3d{n:Nat}{rows:List (List Int)}{at_:List Int}{a:Nat}(ha:a<n)(p:at_.length=n){k:Nat}(j:at_.getD a 0=k)(m:k<(rows.getD a []).length):muE rows (at_.set a ((k:Int)+1)) n<muE rows at_ n:=by
 unfold muE;refine q6e (fun i _=>?_) ⟨a,z0t.2 ha,?_⟩
 .rw [WJ (by omega)];split
  .rename_i h;rw[<-h,j];omega
  .exact x9z _
 .rw [WJ (by omega),if_pos rfl,j];omega
def Pz{n:Nat}(h:l.Nodup)(i:∀x∈l,0<=x/\x<n):l.length<=n:=by
 have:=HG (m:=(List.range n).map fun(k:Nat)=>(k:Int)) h fun x j=>x8s.2 ⟨x.toNat,z0t.2 (by have:=i x j;omega),by have:=i x j;omega⟩;simpa using this
def q6q{l:List Bool}{i:Nat}(h:i<l.length):(l.map bv)[i]?=some (bv (l.getD i false)):=by
 rw[x8n,x8h h,x8f,x8h h];rfl
def Ml{i:Nat}(h:i<l.length):(l.map (AV.int .i64))[i]?=some (.int .i64 (l.getD i 0)):=by
 rw[x8n,x8h h,x8f,x8h h];rfl
def x1v(n:Nat)(rows:List (List Int))(r:AV):Prop:=∃es,r=QE es/\EndsP n (rowE rows) es
def Uz(n:Nat)(hn:n<=5000)(g:List (List Int)×List (List Int))(L:XH n g.1):SpecP prog 273 [UQ g] (fun r=>x1v n g.1 r):=by
 refine sC Q6 func273 ?_;conv=>whnf
 have R:((avI g.1).map AV.sl).length=n:=by simp[avI,L.1]
 repeat' ((first|(refine gX ?_;intros)|refine z3k n (by rw[R]) (by show 1*n<=140737488355328;omega) (by unfold maxLen;omega) ?_|refine z3k n (by rw[R]) (by show 8*n<=140737488355328;omega) (by unfold maxLen;omega) ?_)<;>conv=>whnf)
 refine lJ (fun x:Nat×List Int×List Bool×List Int=>⟨[(0,.p (UQ g)),(3,.hd 2 0 x.2.1.length),(4,.hd 3 0 0),(5,.hd 0 0 n),(6,.hd 1 0 n),(26,.j n),(27,.j x.1)],[(0,.own 4 1 (x.2.2.1.map bv)),(1,.own 3 1 (x.2.2.2.map (.int .i64))),(2,.own 3 1 (x.2.1.map (.int .i64))),(3,.own 3 1 [])]⟩) (fun x=>x.1<=n/\EndI n g.1 x.2.1 [] x.2.2.1 x.2.2.2/\∀y:Int,0<=y/\y<x.1->y∈x.2.1) (fun x=>n-x.1) (0,[],List.replicate n false,List.replicate n 0) (lM [(2,.own 3 1 []),(3,.own 3 1 [])] (hsl:=.r (.cons (.nil x8p) (.cons (.nil (x8b _ x8p)) (.r (.r (.cons (.of_eq (by rw[R];rfl)) (.r .nil))))))) (hH:=.cons rfl (.of_eq (by rw[z1i];rfl)) (.cons rfl (.of_eq (by rw[z1i];rfl)) (.new x8p (.new (x8b _ x8p) .nil))))) ⟨x8m _,EndI.start n g.1,fun y J=>by omega⟩ ?_;rintro⟨r,out,seen,at_⟩ ⟨h1,h,m⟩;simp only at h1 h m⊢;have hsl:=h.sl;have d:=h.al;rcases x8a r n with hr|hr;rotate_left 1
 .conv=>whnf
  repeat' (apply bD<;>intro _<;>first|omega|conv=>whnf)
  have D:∀x:Int,0<=x/\x<n->x∈out:=fun x A=>m x (by omega);exact⟨_,.hd rfl (by simp),out,rfl,h.dfs.fin (fun x y U=>BR L U.2) D⟩
 have B:=q6q (l:=seen) (i:=r) (by omega);have z:∃st V,EndI n g.1 out st V at_/\(r:Int)∈out++st/\((seen.getD r false=true/\st=[]/\V=seen)\/(seen.getD r false=false/\st=[(r:Int)]/\V=seen.set r true)):=by
  cases q:seen.getD r false with
  |true=>exact⟨[],seen,h,(h.seen r (by omega)).1 (by simpa using q),.inl ⟨rfl,rfl,rfl⟩⟩
  |false=>exact⟨[(r:Int)],seen.set r true,h.push (stack:=[]) (b:=r) (by omega) (by simpa using q) trivial,by simp,.inr ⟨rfl,rfl,rfl⟩⟩
 obtain⟨st0,f,c,Z,h6⟩:=z;rcases h6 with⟨q,v,e⟩|⟨q,v,e⟩;all_goals
  rw[q]at B;conv=>whnf
  repeat' ((first|refine gX ?_|refine iO r ?_|refine lO B ?_|refine lO B ?_|refine sO .tt B ?_|refine LA rfl (by simp) ?_|(apply bD<;>intro _<;>try omega))<;>conv=>whnf)
  refine lJ (fun x:List Int×List Int×List Bool×List Int=>⟨[(0,.p (UQ g)),(3,.hd 2 0 x.1.length),(4,.hd 3 0 x.2.1.length),(5,.hd 0 0 n),(6,.hd 1 0 n),(26,.j n),(27,.j r)],[(0,.own 4 1 (x.2.2.1.map bv)),(1,.own 3 1 (x.2.2.2.map (.int .i64))),(2,.own 3 1 (x.1.map (.int .i64))),(3,.own 3 1 (x.2.1.map (.int .i64)))]⟩) (fun x=>EndI n g.1 x.1 x.2.1 x.2.2.1 x.2.2.2/\(r:Int)∈x.1++x.2.1/\∀y:Int,0<=y/\y<r->y∈x.1) (fun x=>muE g.1 x.2.2.2 n+(n-x.1.length)) (out,st0,f,at_) (lE (hsl:=.r (.r (.cons (.of_eq (by first|(rw[v];done)|(rw[v];rfl))) (.r (.r (.r (.r .nil))))))) (hH:=.cons rfl (.of_eq (by rw[e];first|done|rfl|(rw[z0q];rfl))) (.cons rfl (.refl _) (.cons rfl (.refl _) (.cons rfl (.of_eq (by rw[v];rfl)) .nil))))) ⟨c,Z,m⟩ ?_;clear c Z v e B q hsl d h m;rintro⟨o,Y,s,t⟩ ⟨h,m,c⟩;simp only at h m c⊢;have hsl:=h.sl;have d:=h.al;have hol:o.length<=n:=Pz (by have:=h.dfs.nd;rw[z1m]at this;exact this.1) fun x A=>h.dfs.rng x (x8e.2 (.inl A));rcases List.eq_nil_or_concat Y with rfl|⟨st,a,rfl⟩
  .have hz:(([]:List Int).length)=0:=rfl;conv=>whnf
   repeat' ((first|(refine gX ?_;intros)|(apply bD<;>intro _<;>try omega))<;>conv=>whnf)
   exact nX (r+1,o,s,t) ⟨hr,h,fun y J=>by
    rcases Int.lt_or_le y r with K|K
    .exact c y ⟨J.1,K⟩
    .have:y=r:=by simp only at J;omega
     rw[this];simpa using m⟩
  .rw [List.concat_eq_append]at h m⊢;have ha:=h.dfs.rng a (by simp);have hstl:(st++[a]).length=st.length+1:=by simp
   obtain⟨hk0,Q⟩:=h.arng a ha;have e2:=Ml (l:=t) (i:=a.toNat) (by omega);have M:((st++[a]).map (AV.int .i64))[st.length]?=some (.int .i64 a):=by simp
   have u:((avI g.1).map AV.sl)[a.toNat]?=some (.sl ((g.1.getD a.toNat []).map (.int .i64))):=by
    have:a.toNat<g.1.length:=by rw[L.1];omega
    rw[x8f,x8h this];simp[avI,this]
   obtain⟨k,G⟩ : ∃k:Nat,t.getD a.toNat 0=k:=⟨(t.getD a.toNat 0).toNat,by omega⟩;rw[G]at e2 Q;have hrl:((g.1.getD a.toNat []).map (AV.int .i64)).length=(g.1.getD a.toNat []).length:=x8g _;have hnd:=h.dfs.nd;rcases x8a k (g.1.getD a.toNat []).length with w|w
   .obtain ⟨b,E⟩ : ∃b,(g.1.getD a.toNat [])[k]?=some b:=⟨_,x8h w⟩;have O:(g.1.getD a.toNat [])[k]=b:=by rw[x8h w]at E;exact z1e E
    have hE:rowE g.1 a b:=⟨ha.1,z1g.2 ⟨k,E⟩⟩;have F:=BR L hE.2;have hmu:=q3d (by omega) d G w;have C:=q6q (l:=s) (i:=b.toNat) (by omega);have hstk:(st++[a]).length<=n:=Pz (z1m.1 hnd).2.1 fun x A=>h.dfs.rng x (x8e.2 (.inr A));have I:(t.set a.toNat ((k:Int)+1)).map (AV.int .i64)=(t.map (AV.int .i64)).set a.toNat (.int .i64 ((k:Int)+1)):=z0q;have hkm:=h.arng a ha;cases q:s.getD b.toNat false with
    | true=>
      rw[q]at C;conv=>whnf
      repeat' ((first|(refine gX ?_;intros)|refine dA ?_|refine iO st.length ?_|refine lO M ?_|refine iO a.toNat ?_|refine lO e2 ?_|refine iT u ?_|refine iO b.toNat ?_|refine lO C ?_|refine sO (.int .i64 (k+1)) e2 ?_|(apply bD<;>intro _<;>try omega))<;>conv=>whnf)
      exact⟨(o,st++[a],s,t.set a.toNat ((k:Int)+1)),⟨h.step ha G E ((h.seen b F).1 q),m,c⟩,by simp only;omega,lE (hH:=.cons rfl (.refl _) (.cons rfl (.of_eq (by rw[I])) (.cons rfl (.refl _) (.cons rfl (.refl _) .nil))))⟩
    | false=>
      rw[q]at C;conv=>whnf
      repeat' ((first|(refine gX ?_;intros)|refine dA ?_|refine iO st.length ?_|refine lO M ?_|refine iO a.toNat ?_|refine lO e2 ?_|refine iT u ?_|refine iO b.toNat ?_|refine lO C ?_|refine sO (.int .i64 (k+1)) e2 ?_|refine sO .tt C ?_|refine pI ?_|(apply bD<;>intro _<;>try omega))<;>conv=>whnf)
      have h8:=h.push F q (Ye st h.dfs.path hE);exact⟨(o,st++[a]++[b],s.set b.toNat true,t.set a.toNat ((k:Int)+1)),⟨h8.step ha G E (by simp),by rw[<-x9u];exact x8e.2 (.inl m),c⟩,by simp only;omega,lE (hsl:=.r (.r (.cons (.of_eq (by simp;rfl)) (.r (.r (.r (.r .nil))))))) (hH:=.cons rfl (.of_eq (by rw[z0q];rfl)) (.cons rfl (.of_eq (by rw[I])) (.cons rfl (.refl _) (.cons rfl (.of_eq (by rw[O];simp;rfl)) .nil))))⟩
   .have H:k=(g.1.getD a.toNat []).length:=by omega
    have hp:=h.pop (by rw[G,H]);have hol2:o.length+1<=n:=by
     have h7:=hp.dfs;have:=Pz (z1m.1 h7.nd).1 fun x A=>h7.rng x (x8e.2 (.inl A));simpa using this
    conv=>whnf
    repeat' ((first|(refine iM fun _=>?_)|refine dA ?_|refine x9g rfl ?_|refine aD ?_|refine bP ?_|refine wI ?_|refine iO st.length ?_|refine lO M ?_|refine iO a.toNat ?_|refine lO e2 ?_|refine iT u ?_|refine pI ?_|refine z4b 0 st.length rfl (by show((st++[a]).length:Int)-1=_;omega) (by omega) (by omega) ?_|(apply bD<;>intro _<;>try omega))<;>conv=>whnf)
    have h9:muE g.1 t n+(n-(o++[a]).length)<muE g.1 t n+(n-o.length):=by simp;omega
    exact⟨(o++[a],st,s,t),⟨hp,by simpa[z5t,or_comm,or_left_comm]using m,fun y J=>x8e.2 (.inl (c y J))⟩,h9,(Le.cut (.same (.same (.same (.cut (es':=st.map (.int .i64)) ⟨[.int .i64 a],by simp⟩ .nil))))).trans (lE (hsl:=.r (.cons (.of_eq (by simp;rfl)) (.cons (.of_eq (by simp;rfl)) (.r (.r (.r (.r .nil))))))) (hH:=.cons rfl (.refl _) (.cons rfl (.refl _) (.cons rfl (.of_eq (by simp;rfl)) (.cons rfl (.refl _) .nil)))))⟩
def q6m(pre:List Bool)(rows:List (List Int)):List (List Int):=rows.map fun r=>r.filter fun b=> !pre.getD b.toNat false
def Lz{pre:List Bool}{rows:List (List Int)}{x y:Int}:Pu (q6m pre rows) x y↔Pu rows x y/\pre.getD y.toNat false=false:=by
 unfold Pu q6m;simp only[x8f,x8n];cases rows[x.toNat]?with
 |none=>simp
 |some r=>simp
def q8i{n:Nat}{pre:List Bool}{rows:List (List Int)}(h:XH n rows):XH n (q6m pre rows):=by
 refine⟨by simp[q6m,h.1],fun r k b j=>?_⟩;obtain⟨m,i,rfl⟩:=x8s.1 k;exact h.2 m i b (z0v.1 j).1
structure SimW(pre:List Bool)(st st':List Bool×List Int):Prop where
 todo:st.2=st'.2
 len:st.1.length=st'.1.length
 mrk:∀k,st.1.getD k false=(pre.getD k false||st'.1.getD k false)
theorem SimW.see{pre:List Bool}{st i:List Bool×List Int}(h:SimW pre st i){b:Int}(j:b.toNat<st.1.length)(q:pre.getD b.toNat false=false):SimW pre (GU st b) (GU i b):=by
 have m:=h.mrk b.toNat;rw[q,Bool.false_or]at m;unfold GU;rw[m];cases i.1.getD b.toNat false with
 |true=>exact h
 | false=>
   refine⟨by simp only[x9p];rw[h.todo],by simpa using h.len,fun k=>?_⟩;simp only[x9p];rw[WJ j,WJ (by rw[<-h.len];exact j)];split
   .simp
   .exact h.mrk k
theorem SimW.skip{pre:List Bool}{st i:List Bool×List Int}(h:SimW pre st i){b:Int}(j:pre.getD b.toNat false=true):GU st b=st:=by
 unfold GU;rw[h.mrk,j];rfl
def q4t(st:List Bool×List Int)(b:Int):(GU st b).1.length=st.1.length:=by
 unfold GU;cases st.1.getD b.toNat false<;>simp
theorem SimW.fold{n:Nat}{pre:List Bool}:∀(l:List Int){st st':List Bool×List Int},SimW pre st st'->st.1.length=n->(∀b∈l,0<=b/\b<n)->SimW pre (l.foldl GU st) ((l.filter fun b=> !pre.getD b.toNat false).foldl GU st')/\(l.foldl GU st).1.length=n
 |[],_,_,h,hn,_=>⟨h,hn⟩
 | b::r,st,st',h,hn,hl=>by
   have q:=hl b x8p;have j:∀c∈r,0<=c/\c<n:=fun c m=>hl c (x8b _ m);rw[z1n];cases i:pre.getD b.toNat false with
   | true=>
     rw[h.skip i,z2z (by rw[i];simp)];exact SimW.fold r h hn j
   | false=>
     rw[z1l (by rw[i];simp),z1n];exact SimW.fold r (h.see (by omega) i) (by rw[q4t];exact hn) j
theorem Nr{n:Nat}{pre:List Bool}{rows:List (List Int)}(m:XH n rows):∀(k i:Nat){st st':List Bool×List Int},SimW pre st st'->st.1.length=n->SimW pre (ZD rows k i st) (ZD (q6m pre rows) k i st')
 |0,_,_,_,h,_=>h
 | k+1,i,st,st',h,hn=>by
   rw[ZD,ZD,<-h.todo];cases ha:st.2[i]?with
   |none=>exact h
   | some a=>
     simp only;have j:∀b∈rows.getD a.toNat [],0<=b/\b<n:=fun b s=>BR m s;have t:(q6m pre rows).getD a.toNat []=(rows.getD a.toNat []).filter fun b=> !pre.getD b.toNat false:=by
      unfold q6m;simp only[x8f,x8n];cases rows[a.toNat]?with
      |none=>simp
      |some r=>simp
     rw[t];obtain⟨p,q⟩:=SimW.fold (n:=n) _ h hn j;exact Nr m k (i+1) p q
def q0d{n:Nat}{pre:List Bool}{rows:List (List Int)}(w:XH n rows)(v:pre.length=n){r:Int}(s:0<=r/\r<n)(A:pre.getD r.toNat false=false):
  (∀x,x∈(ZD rows (n+1) 0 (pre.set r.toNat true,[r])).2↔Rch (fun a b=>Pu rows a b/\pre.getD b.toNat false=false) r x)/\
  (∀x:Int,0<=x/\x<n->((ZD rows (n+1) 0 (pre.set r.toNat true,[r])).1.getD x.toNat false=true↔pre.getD x.toNat false=true\/x∈(ZD rows (n+1) 0 (pre.set r.toNat true,[r])).2)):=by
 have e0:GU (List.replicate n false,[]) r=((List.replicate n false).set r.toNat true,[r]):=by
  unfold GU;have:(List.replicate n false).getD r.toNat false=false:=by
   rw[x8f,x9l];split<;>rfl
  simp only[this,x9p,z3a]
 obtain⟨u,z,_⟩:=(WkM.start n).see s;rw[e0]at u z;have j:SimW pre (pre.set r.toNat true,[r]) ((List.replicate n false).set r.toNat true,[r]):=⟨rfl,by simp[v],fun k=>by
  rw[WJ (by omega),WJ (by simp;omega)];split
  .simp
  .have:(List.replicate n false).getD k false=false:=by
    rw[x8f,x9l];split<;>rfl
   rw[this,Bool.or_false]⟩
 have t:=Nr w (n+1) 0 j (by simpa using v);obtain⟨c,d,e,f⟩:=Gf (q8i (pre:=pre) w) (n+1) 0 u (x8m _) (by omega) (fun m a g=>by omega);refine⟨fun x=>?_,fun x i=>?_⟩
 .rw [t.todo];constructor
  .intro i;exact f (fun x=>Rch (fun a b=>Pu rows a b/\pre.getD b.toNat false=false) r x) (fun x i=>by rw[x8l.1 i];exact .refl) (fun x b p q=>.tail p (Lz.1 q)) x i
  .intro i;exact i.closed (S:=fun x=>x∈(ZD (q6m pre rows) (n+1) 0 ((List.replicate n false).set r.toNat true,[r])).2) (fun x y p q=>e x p y (Lz.2 q)) (d r (by simp))
 .rw [t.mrk,t.todo,c.mem,z2s];exact⟨fun h=>h.imp id fun h=>⟨i,h⟩,fun h=>h.imp id fun h=>h.2⟩
def Bn{n:Nat}{a:Int}(h:0<=a/\a<n):ZT n a=true:=by
 unfold ZT;simpa using h
structure MinP(E:Int->Int->Prop)(x v:Int):Prop where
 scc:sccP E x v
 le:∀y,sccP E x y->v<=y
theorem MinP.uniq{E:Int->Int->Prop}{x v w:Int}(h:MinP E x v)(i:MinP E x w):v=w:=Int.le_antisymm (h.le w i.scc) (i.le v h.scc)
def Wq(n:Nat)(rows:List (List Int)):List Int:=(List.range n).map fun(a:Nat)=>N5 ((DZ 0 (WX rows [(a:Int)])).filter fun b=>(DZ 0 (WX rows [b])).contains (a:Int))
def q4b{n:Nat}{rows:List (List Int)}(m:XH n rows){x y:Int}(p:0<=x):Rch (rowE rows) x y↔Rch (Pu rows) x y:=by
 refine⟨fun h=>h.mono fun _ _ h=>h.2,fun h=>?_⟩;exact(h.closed (S:=fun y:Int=>0<=y/\Rch (rowE rows) x y) (fun a b ⟨j,k⟩ i=>⟨(BR m i).1,.tail k ⟨j,i⟩⟩) ⟨p,.refl⟩).2
def C2{n:Nat}{rows:List (List Int)}(i:XH n rows){x y:Int}(j:0<=x/\x<n)(h:Rch (rowE rows) x y):0<=y/\y<n:=
 h.closed (S:=fun y:Int=>0<=y/\y<n) (fun _ _ _ h=>BR i h.2) j
def Tk{n:Nat}{rows:List (List Int)}(i:XH n rows){x:Int}(j:0<=x/\x<n)(y:Int):y∈DZ 0 (WX rows [x])↔Rch (rowE rows) x y:=by
 rw[Lm i,q4b i j.1];constructor
 .rintro ⟨a,ha,_,h⟩;rw[x8l.1 ha]at h;exact h
 .intro h;exact⟨x,by simp,Bn j,h⟩
def BP(n:Nat)(rows:List (List Int)):(Wq n rows).length=n:=by simp[Wq]
def Wx{n:Nat}{rows:List (List Int)}(j:XH n rows){x:Int}(m:0<=x/\x<n):MinP (rowE rows) x ((Wq n rows).getD x.toNat 0):=by
 have e:(Wq n rows).getD x.toNat 0=N5 ((DZ 0 (WX rows [x])).filter fun b=>(DZ 0 (WX rows [b])).contains x):=by
  unfold Wq;rw[x8f,x8n,z2w (by omega)];have:((x.toNat:Nat):Int)=x:=by omega
  simp[this]
 have k:∀y,y∈(DZ 0 (WX rows [x])).filter (fun b=>(DZ 0 (WX rows [b])).contains x)↔sccP (rowE rows) x y:=fun y=>by
  rw[z0v,Tk j m,List.contains_iff_mem];constructor
  .rintro ⟨h,i⟩;exact⟨h,(Tk j (C2 j m h) x).1 i⟩
  .rintro ⟨h,i⟩;exact⟨h,(Tk j (C2 j m h) x).2 i⟩
 rw[e];obtain⟨h,i⟩:=L2 (l:=(DZ 0 (WX rows [x])).filter fun b=>(DZ 0 (WX rows [b])).contains x) (z4a ((k x).2 (sccP.refl x)));exact⟨(k _).1 h,fun y p=>i y ((k y).2 p)⟩
structure PartI(n:Nat)(E:Int->Int->Prop)(es:List Int)(m:Nat)(part:List Int)(seen:List Bool):Prop where
 sl:seen.length=n
 pl:part.length=n
 seen:∀x:Int,0<=x/\x<n->(seen.getD x.toNat false=true↔SeenP E es m x)
 min:∀x:Int,0<=x/\x<n->SeenP E es m x->MinP E x (part.getD x.toNat 0)
theorem PartI.start{n:Nat}{E:Int->Int->Prop}{es:List Int}:PartI n E es es.length (List.replicate n 0) (List.replicate n false):=by
 have i:∀x,¬SeenP E es es.length x:=fun x ⟨j,y,r,m,_⟩=>by
  have:=(x8t.1 m).1;omega
 refine⟨by simp,by simp,fun x _=>?_,fun x _ q=>absurd q (i x)⟩;rw[x8f,x9l];have:=i x;split<;>simp[this]
def US(l:List Int)(v:Int)(part:List Int):List Int:=l.foldl (fun p a=>p.set a.toNat v) part
theorem LG(v:Int):∀(l part:List Int),(US l v part).length=part.length
 |[],_=>rfl
 | a::r,part=>by
   show(US r v (part.set a.toNat v)).length=_;rw[LG v r];simp
theorem Kt{n:Nat}(v:Int){x:Int}(t:0<=x/\x<n):∀(l:List Int){part:List Int},part.length=n->(∀a∈l,0<=a/\a<n)->(x∈l->(US l v part).getD x.toNat 0=v)/\(x∉l->(US l v part).getD x.toNat 0=part.getD x.toNat 0)
 |[],_,_,_=>⟨by simp,fun _=>rfl⟩
 | a::r,part,hl,ha=>by
   have p:=ha a x8p;have e:US (a::r) v part=US r v (part.set a.toNat v):=rfl;obtain⟨k,m⟩:=Kt v t r (part:=part.set a.toNat v) (by simpa using hl) fun b q=>ha b (x8b _ q);have s:(part.set a.toNat v).getD x.toNat 0=if a.toNat=x.toNat then v else part.getD x.toNat 0:=WJ (by omega);rw[e];by_cases i:x∈r
   .exact ⟨fun _=>k i,fun h=>absurd (x8b _ i) h⟩
   .rw [m i,s];constructor
    .intro h;rcases x8r.1 h with rfl|h
     .rw [if_pos rfl]
     .exact absurd h i
    .intro h;have:x≠a:=fun j=>h (by rw[j];exact x8p);rw[if_neg (by omega)]
theorem PartI.part{n:Nat}{g:List (List Int)×List (List Int)}(V:XH n g.1)(v:XH n g.2)(L:∀x y,rowE g.2 x y↔rowE g.1 y x){es:List Int}(U:EndsP n (rowE g.1) es){m:Nat}{part:List Int}{seen:List Bool}(h:PartI n (rowE g.1) es (m+1) part seen){r:Int}(J:es[m]?=some r)(O:seen.getD r.toNat false=false):
  (∀x∈(ZD g.2 (n+1) 0 (seen.set r.toNat true,[r])).2,0<=x/\x<n)/\0<(ZD g.2 (n+1) 0 (seen.set r.toNat true,[r])).2.length/\wkInv n (seen.set r.toNat true,[r])/\
  PartI n (rowE g.1) es m (US (ZD g.2 (n+1) 0 (seen.set r.toNat true,[r])).2 (N5 (ZD g.2 (n+1) 0 (seen.set r.toNat true,[r])).2) part) (ZD g.2 (n+1) 0 (seen.set r.toNat true,[r])).1:=by
 have u:=(U.mem r).1 (x9x J);have hsl:=h.sl;have M:¬SeenP (rowE g.1) es (m+1) r:=fun D=>by rw[(h.seen r u).2 D]at O;cases O
 obtain⟨Y,Q⟩:=q0d v h.sl u O;have B:∀x y,rowE g.1 x y->(0<=x/\x<n)/\0<=y/\y<n:=fun x y H=>⟨BR v ((L y x).2 H).2,BR V H.2⟩;have c:=Ee B U J M;have C:∀x,Rch (fun a b=>Pu g.2 a b/\seen.getD b.toNat false=false) r x↔Rch (fun a b=>rowE g.1 b a/\¬SeenP (rowE g.1) es (m+1) b) r x:=fun x=>by
  constructor
  .intro j;exact(j.closed (S:=fun x:Int=>(0<=x/\x<n)/\Rch (fun a b=>rowE g.1 b a/\¬SeenP (rowE g.1) es (m+1) b) r x) (fun a b ⟨e,A⟩ ⟨f,R⟩=>by
    have I:=BR v f;refine⟨I,.tail A ⟨(L a b).1 ⟨e.1,f⟩,fun D=>?_⟩⟩;rw[(h.seen b I).2 D]at R;cases R) ⟨u,.refl⟩).2
  .intro j;refine j.mono fun a b ⟨e,A⟩=>⟨((L a b).2 e).2,?_⟩;have I:=(B b a e).1;cases hq:seen.getD b.toNat false with
   |true=>exact absurd ((h.seen b I).1 hq) A
   |false=>rfl
 have i:∀x,x∈(ZD g.2 (n+1) 0 (seen.set r.toNat true,[r])).2↔sccP (rowE g.1) r x:=fun x=>by rw[Y,C,c]
 have t:∀x∈(ZD g.2 (n+1) 0 (seen.set r.toNat true,[r])).2,0<=x/\x<n:=fun x j=>C2 V u ((i x).1 j).1;have q:0<(ZD g.2 (n+1) 0 (seen.set r.toNat true,[r])).2.length:=z4a ((i r).2 (sccP.refl r));have F:wkInv n (seen.set r.toNat true,[r]):=by
  refine⟨by simpa using h.sl,?_,fun x j=>by rw[x8l.1 j];exact u⟩;have K:r.toNat<(seen.set r.toNat true).length:=by simp;omega
  show 1<=_;exact List.count_pos_iff.2 (z0l.2 ⟨r.toNat,K,by simp⟩)
 have G:(ZD g.2 (n+1) 0 (seen.set r.toNat true,[r])).1.length=n:=(PZ v _ _ F).1;generalize ZD g.2 (n+1) 0 (seen.set r.toNat true,[r])=w at i t q G Q⊢;obtain⟨Z,h8⟩:=L2 q;refine⟨t,q,F,G,by rw[LG];exact h.pl,fun x j=>?_,fun x j D=>?_⟩
 .rw [Q x j,i,h.seen x j,R2 J]
 .obtain ⟨e,A⟩:=Kt (N5 w.2) j w.2 h.pl t;by_cases z:x∈w.2
  .rw [e z];have E:=(i x).1 z;exact⟨E.symm.trans ((i _).1 Z),fun y hy=>h8 y ((i y).2 (E.trans hy))⟩
  .rw [A z];refine h.min x j ?_;rcases(R2 J x).1 D with f|f
   .exact f
   .exact absurd ((i x).2 f) z
theorem PartI.fin{n:Nat}{rows:List (List Int)}(x:XH n rows){es:List Int}(w:EndsP n (rowE rows) es){part:List Int}{seen:List Bool}(h:PartI n (rowE rows) es 0 part seen):part=Wq n rows:=by
 refine z4f fun i=>?_;rcases x8a i n with j|j
 .have r:0<=(i:Int)/\(i:Int)<n:=by omega
  have t:=h.min i r (q4s w r);have u:=Wx x r;have v:=t.uniq u;have m:i<part.length:=by rw[h.pl];exact j
  have q:i<(Wq n rows).length:=by rw[BP];exact j
  simpa[x8f,m,q]using v
 .rw [z0d (by rw[h.pl];exact j),z0d (by rw[BP];exact j)]
def W1(n:Nat)(O:n<=5000)(g:List (List Int)×List (List Int))(c:XH n g.1)(s:XH n g.2)(A:∀x y,rowE g.2 x y↔rowE g.1 y x):aP 257 [UQ g] (QE (Wq n g.1)):=by
 refine sC NE func257 ?_;conv=>whnf
 have M:((avI g.1).map AV.sl).length=n:=by simp[avI,c.1]
 repeat' ((first|(refine gX ?_;intros)|refine z3k n (by rw[M]) (by show 1*n<=140737488355328;omega) (by unfold maxLen;omega) ?_|refine z3k n (by rw[M]) (by show 8*n<=140737488355328;omega) (by unfold maxLen;omega) ?_|(refine CallK.pure (Uz n O g c) (.cons (Sub.refl _) .nil) ?_;rintro _ ⟨es,rfl,z⟩))<;>conv=>whnf)
 have L:es.length<=n:=by
  have e:=z.nd;exact Pz e fun x t=>(z.mem x).1 t
 have B:(es.map (AV.int .i64)).length=es.length:=x8g _;refine lJ (fun x:Nat×List Int×List Bool=>⟨[(0,.p (UQ g)),(3,.hd 0 0 n),(4,.hd 1 0 n),(5,.p (QE es)),(6,.j ((x.1:Int)-1))],[(0,.own 3 1 (x.2.1.map (.int .i64))),(1,.own 4 1 (x.2.2.map bv))]⟩) (fun x=>x.1<=es.length/\PartI n (rowE g.1) es x.1 x.2.1 x.2.2) (fun x=>x.1) (es.length,List.replicate n 0,List.replicate n false) (lE (hsl:=.r (.cons (.of_eq rfl) (.cons (.of_eq rfl) (.r (.cons (.of_eq (by rw[B];rfl)) .nil))))) (hH:=.cons rfl (.of_eq (by rw[z1i];rfl)) (.cons rfl (.of_eq (by rw[z1i];rfl)) .nil))) ⟨x9z _,PartI.start⟩ ?_;rintro⟨m,part,seen⟩ ⟨e,k⟩;simp only at e k⊢;have hsl:=k.sl;have C:=k.pl;cases m with
 | zero=>
   conv=>whnf
   repeat' (apply bD<;>intro _<;>first|omega|conv=>whnf)
   exact⟨_,.hd rfl (by simp[C]),by rw[k.fin c z];rfl⟩
 | succ m=>
   obtain⟨r,u⟩ : ∃r,es[m]?=some r:=⟨_,x8h (by omega)⟩;have D:=(z.mem r).1 (x9x u);have R:es[m]=r:=by rw[x8h (by omega)]at u;exact z1e u
   have a:(es.map (AV.int .i64))[m]?=some (.int .i64 r):=by rw[x8n,u];rfl
   have v:=q6q (l:=seen) (i:=r.toNat) (by omega);cases d:seen.getD r.toNat false with
   | true=>
     rw[d]at v;have b:=Ob u ((k.seen r D).1 d);conv=>whnf
     repeat' ((first|refine x9g rfl ?_|refine wI ?_|refine iT a ?_|refine iO r.toNat ?_|refine lO v ?_|(apply bD<;>intro _<;>try omega))<;>conv=>whnf)
     exact⟨(m,part,seen),⟨by simp only;omega,k.sl,k.pl,fun x t=>by rw[k.seen x t,b],fun x t U=>k.min x t ((b x).1 U)⟩,Nat.lt_succ_self m,Le.of_eq (by rw[show((m+1:Nat):Int)-1-1=(m:Int)-1 by omega])⟩
   | false=>
     rw[d]at v;obtain⟨I,J,K,f⟩:=k.part c s A z u d;conv=>whnf
     repeat' ((first|refine dA ?_|refine x9g rfl ?_|refine aD ?_|refine iT a ?_|refine iO r.toNat ?_|refine lO v ?_|refine sO .tt v ?_|refine z4x (fun x t=>by rcases x8l.1 t with rfl;rfl) rfl ?_|(apply bD<;>intro _<;>try omega))<;>conv=>whnf)
     have E:(ZD g.2 (n+1) 0 (seen.set r.toNat true,[r])).1.length=n:=f.sl;rw[show(seen.map bv).set r.toNat AV.tt=(seen.set r.toNat true).map bv by rw[z0q];rfl];refine cJ [(1000,1),(2000,2)] 0 (Fh n O g.2 s (seen.set r.toNat true,[r]) K) ?_;rintro l' H' ⟨rfl,rfl⟩;conv=>whnf
     have F:(ZD g.2 (n+1) 0 (seen.set r.toNat true,[r])).2.length<=n:=PW (PZ s _ _ K);generalize ZD g.2 (n+1) 0 (seen.set r.toNat true,[r])=w at I J f E F⊢;repeat' ((first|(refine iM fun _=>?_)|(refine QR (LF w.2 J) (.cons (.hd rfl (by simp)) .nil) (by rintro _ rfl;rfl) ?_;rintro _ rfl))<;>conv=>whnf)
     refine lI (fun x:Nat=>⟨[(0,.p (UQ g)),(3,.hd 0 0 n),(4,.hd 1 0 n),(5,.p (QE es)),(6,.j (((m+1:Nat):Int)-1)),(8,.j (N5 w.2)),(60,.hd 2 0 w.2.length),(61,.j w.2.length),(62,.j x)],[(1,.own 4 1 (w.1.map bv)),(2,.own 3 1 (w.2.map (.int .i64))),(0,.own 3 1 ((US (w.2.take x) (N5 w.2) part).map (.int .i64)))]⟩) (fun x=>x<=w.2.length) (fun x=>w.2.length-x) 0 (x8m _) ?_;intro q Q;rcases x8a q w.2.length with h|h
     .have V:=I _ (x8o h);have G:=Ml (l:=US (w.2.take q) (N5 w.2) part) (i:=w.2[q].toNat) (by rw[LG];omega);have H:US (w.2.take (q+1)) (N5 w.2) part=(US (w.2.take q) (N5 w.2) part).set w.2[q].toNat (N5 w.2):=by
       unfold US;rw[x8c h,z2h];rfl
      generalize US (w.2.take q) (N5 w.2) part=pt at G H⊢;conv=>whnf
      repeat' ((first|refine gX ?_|refine iO q ?_|refine z5m q 0 (.int .i64 w.2[q]) (by omega) (by simp[h]) ?_|refine z1x w.2[q].toNat (by omega) (by omega) ?_|refine z3v w.2[q].toNat 0 (.int .i64 (pt.getD w.2[q].toNat 0)) (.int .i64 (N5 w.2)) (by omega) G (x9z 1) rfl ?_|(apply bD<;>intro _<;>try omega))<;>conv=>whnf)
      exact⟨q+1,h,by omega,Le.of_eq (by rw[H,z0q];rfl)⟩
     .rw [x9q h];conv=>whnf
      repeat' ((first|refine wI ?_|(apply bD<;>intro _<;>try omega))<;>conv=>whnf)
      exact⟨(m,US w.2 (N5 w.2) part,w.1),⟨by simp only;omega,f⟩,Nat.lt_succ_self m,lE (hsl:=.r (.r (.r (.r (.cons (.of_eq (by rw[show(m:Int)=((m+1:Nat):Int)-1 by omega];rfl)) .nil)))))⟩
theorem OpK.frz{K:St->Prop}{s:St}(hT:TabOK P T)(r:List (List Nat))(h:x2i r s fun s'=>opW P T N s' o K):OpK P N s o K:=⟨fun σ β a w x Q=>by
 obtain⟨b,t,j⟩:=Jv (N:=N) h;obtain⟨σ1,β1,q,i⟩:=j σ β a w x;exact Oper.wp_mono (fun z w' ⟨σ',β',y,u,m,v⟩=>⟨σ',β',y,u,m,i.trans v⟩) (Kj hT t q Q)⟩
def C0{N:List (List Int)}{a:Nat}(ha:a<N.length){b y:Int}{k:Nat}:y∈(D0 N a b).getD k []↔y∈N.getD k []\/(a=k/\y=b):=by
 unfold D0;rw[WJ ha];split
 .rename_i h;rw[Sa,h];simp
 .rename_i h;simp[h]
def Ep{n:Nat}{g:List (List Int)×List (List Int)}(h:g.2.length=n)(e:Int×Int):(N4 n g e).2.length=n:=by
 rw[Hp];cases(ZT n e.1&&ZT n e.2 && !(g.1.getD e.1.toNat []).contains e.2)with
 |true=>rw[x9y];unfold D0;rw[z0m];exact h
 |false=>exact h
structure MirG(n:Nat)(g:List (List Int)×List (List Int)):Prop where
 l1:g.1.length=n
 l2:g.2.length=n
 m:∀x y:Int,0<=x/\x<n->0<=y/\y<n->(y∈g.1.getD x.toNat []↔x∈g.2.getD y.toNat [])
theorem MirG.add{n:Nat}{g:List (List Int)×List (List Int)}(h:MirG n g)(e:Int×Int):MirG n (N4 n g e):=by
 refine⟨TR h.l1 e,Ep h.l2 e,fun x y q r=>?_⟩;rw[Yd,Hp];cases j:(ZT n e.1&&ZT n e.2 && !(g.1.getD e.1.toNat []).contains e.2)with
 | true=>
   simp only[x9w]at j;have u:=ZJ j.1.1;have v:=ZJ j.1.2;rw[x9y,x9y,C0 (by rw[h.l1];omega),C0 (by rw[h.l2];omega),h.m x y q r];constructor
   .rintro (i|⟨i,t⟩)
    .exact .inl i
    .exact .inr ⟨by omega,by omega⟩
   .rintro (i|⟨i,t⟩)
    .exact .inl i
    .exact .inr ⟨by omega,by omega⟩
 |false=>exact h.m x y q r
theorem MirG.fold{n:Nat}:∀(l:List (Int×Int)){g:List (List Int)×List (List Int)},MirG n g->MirG n (l.foldl (N4 n) g)
 |[],_,h=>h
 |e::r,_,h=>MirG.fold r (h.add e)
def Mb(n:Nat)(l:List (Int×Int)):MirG n (QA n l):=by
 refine MirG.fold l ⟨by simp,by simp,fun x y _ _=>?_⟩;have:∀k,(List.replicate n ([]:List Int)).getD k []=[]:=fun k=>by
  rw[x8f,x9l];split<;>rfl
 simp only[this];simp
def Ts{n:Nat}{rows:List (List Int)}(k:rows.length=n){x y:Int}(h:rowE rows x y):0<=x/\x<n:=by
 refine⟨h.1,?_⟩;have i:=h.2;unfold Pu at i;rcases x8a x.toNat rows.length with j|j
 .omega
 .rw [x8f,z0d j]at i;simp at i
def A0(n:Nat)(l:List (Int×Int))(x y:Int):rowE (QA n l).2 x y↔rowE (QA n l).1 y x:=by
 obtain⟨p,q⟩:=KW n l;have j:=Mb n l;constructor
 .intro h;have k:=Ts j.l2 h;have i:=BR q h.2;exact⟨i.1,(j.m y x i k).2 h.2⟩
 .intro h;have k:=Ts j.l1 h;have i:=BR p h.2;exact⟨i.1,(j.m y x k i).1 h.2⟩
def A1{n:Nat}{l:List (Int×Int)}{x y:Int}:rowE (QA n l).1 x y↔(x,y)∈l/\ZT n x=true/\ZT n y=true:=by
 constructor
 .intro h;have i:=Ts (Mb n l).l1 h;have:=(PP i).1 h.2;exact⟨this.1,Bn i,this.2⟩
 .rintro ⟨j,k,m⟩;have i:=ZJ k;exact⟨i.1,(PP i).2 ⟨j,m⟩⟩
def W9(part:List Int)(o:List Bool)(t:Int×Int):List Bool:=if part.getD t.1.toNat 0=part.getD t.2.toNat 0 then o else o.set (part.getD t.1.toNat 0).toNat true
def Hy(n:Nat)(part:List Int):List Bool:=((List.replicate n false).set (part.getD 0 0).toNat true).set (part.getD (n-1) 0).toNat true
def P3(n:Nat)(part:List Int)(h:List (Int×Int)):List Bool:=h.foldl (W9 part) (Hy n part)
def BO(h:Int->Int)(part:List Int)(i q:Nat):List Int:=((List.range q).filter fun j=>part.getD j 0==(i:Int)).map fun(j:Nat)=>h j
def Gv(part:List Int)(op:List Bool)(i:Nat):Bool:=part.getD i 0==(i:Int) && !op.getD i false
def Wn(h:Int->Int)(part:List Int)(op:List Bool)(q:Nat):List (List Int):=((List.range q).filter (Gv part op)).map fun i=>BO h part i part.length
def prsW(w:Way)(f:Pr):List (Int×Int):=w.real.map (ixP w.p w.j f w.n)
def UR(w:Way)(f:Pr):List Int:=Wq w.n.toNat (QA w.n.toNat (prsW w f)).1
def trapsW(w:Way)(f:Pr):List (List Int):=Wn (QB w.p w.j w.n) (UR w f) (P3 w.n.toNat (UR w f) (prsW w f)) (UR w f).length
def Lu(part:List Int)(o:List Bool)(t:Int×Int):(W9 part o t).length=o.length:=by
 unfold W9;split<;>simp
def ST{n:Nat}{rows:List (List Int)}(h:XH n rows){k:Nat}(j:k<n):0<=(Wq n rows).getD k 0/\(Wq n rows).getD k 0<n:=by
 have i:0<=(k:Int)/\(k:Int)<n:=by omega
 have:=Wx h i;exact C2 h i this.scc.1
def AL(j:Int->Int)(part:List Int)(i q:Nat):BO j part i (q+1)=if part.getD q 0=(i:Int)then BO j part i q++[j q]else BO j part i q:=by
 unfold BO;rw[z2p,z0b,x8i];by_cases h:part.getD q 0=(i:Int)
 .rw [if_pos h,z1l (by rw[h];simp)];rfl
 .rw [if_neg h,z2z (by simpa using h)];simp
def AM(i:Int->Int)(part:List Int)(op:List Bool)(q:Nat):Wn i part op (q+1)=if Gv part op q=true then Wn i part op q++[BO i part q part.length]else Wn i part op q:=by
 unfold Wn;rw[z2p,z0b,x8i];by_cases h:Gv part op q=true
 .rw [if_pos h,z1l h];rfl
 .rw [if_neg h,z2z h];simp
def Rh(h:Int->Int)(part:List Int)(i q:Nat):(BO h part i q).length<=q:=by
 unfold BO;rw[x8g];exact x9r (z0i _ _) (by simp)
def Rg(h:Int->Int)(part:List Int)(op:List Bool)(q:Nat):(Wn h part op q).length<=q:=by
 unfold Wn;rw[x8g];exact x9r (z0i _ _) (by simp)
theorem Lv(part:List Int):∀(l:List (Int×Int))(o:List Bool),(l.foldl (W9 part) o).length=o.length
 |[],_=>rfl
 |t::r,o=>by rw[z1n,Lv part r,Lu]
def O0(n:Nat)(part:List Int)(l:List (Int×Int)):(l.foldl (W9 part) (Hy n part)).length=n:=by
 rw[Lv];simp[Hy]
end Go.Ab
