/- LAW: sets of facts that grow until nothing comes: the least solution. -/
import Derived.Test.YtgljdhjopolmcaaGreatRcA21
set_option linter.all false
set_option maxRecDepth 100000
set_option maxHeartbeats 16000000
open Int (ofNat)
open Nat (mod_lt)
namespace Go.Ab
open Go.Proofs.Tryz
open Go.Proofs
variable {N i sz:Nat}{P:Program}{c:List Wd}{es:List AV}
def Ac(ws:List Wd)(f:Nat):(q0z ws f).length=ws.length:=by unfold q0z;rw[z3e]
def Fs{b:List Wd}(h:c.length=b.length):(WR b c).length=b.length:=by unfold WR;rw[z8j];omega
def BX{b:List Wd}(h:c.length=b.length){f:Nat}(j:f/64<b.length):bitW (WR b c) f=(bitW b f||bitW c f):=by
 unfold bitW WR;rw[z0a,z0a,z0a,List.getElem?_zipWith,z0c j,z0c (show f/64<c.length by omega)];simp only[z2l];rw[BitVec.getLsbD_or]
def q3g{ws:List Wd}{f g:Nat}(m:f/64<ws.length):bitW (q0z ws f) g=(bitW ws g||decide (g=f)):=by
 unfold bitW q0z;by_cases h:g/64=f/64
 .rw [h,z0a,z3j m];simp only[z2l];rw[BitVec.getLsbD_or];congr 1;rw[BitVec.getLsbD_shiftLeft];have p:g%64<64:=mod_lt _ (by decide);have o:f%64<64:=mod_lt _ (by decide);by_cases j:g=f
  .subst j;simp[p]
  .have q:g%64≠f%64:=fun l=>j (by have:=Nat.div_add_mod g 64;have:=Nat.div_add_mod f 64;omega);rw[z2r j];by_cases k:g%64<f%64
   .simp [k]
   .have:(1#64).getLsbD (g%64-f%64)=false:=by
     rw[BitVec.getLsbD_one];have:¬g%64-f%64=0:=by omega
     simp[this]
    simp[this]
 .rw [z0a,z3p (z5q h),z0a];have j:g≠f:=fun l=>h (by rw[l]);rw[z2r j,Bool.or_false]
def RS(w f:Nat):bitW (List.replicate w 0) f=false:=by
 unfold bitW;rw[z0a,z2q];split<;>simp
def PN(w:Nat)(fs:List Int):List Wd:=fs.foldl (fun ws f=>q0z ws f.toNat) (List.replicate w 0)
def O7(fs:List Int):∀ws:List Wd,(fs.foldl (fun ws f=>q0z ws f.toNat) ws).length=ws.length:=by
 induction fs with
 |nil=>intro ws;rfl
 |cons f r h=>intro ws;rw[z4d,h,Ac]
def Gd(w:Nat)(fs:List Int):(PN w fs).length=w:=by unfold PN;rw[O7,z2o]
def q0k(w:Nat)(fs:List Int){j:Nat}(h:j<fs.length):PN w (fs.take (j+1))=q0z (PN w (fs.take j)) fs[j].toNat:=by
 unfold PN;rw[z1y h,z7q];rfl
def q3h{w:Nat}{fs:List Int}(h:∀f∈fs,0<=f/\f.toNat/64<w)(g:Nat):bitW (PN w fs) g=decide ((g:Int)∈fs):=by
 unfold PN;have key:∀(fs:List Int)(ws:List Wd),ws.length=w->(∀f∈fs,0<=f/\f.toNat/64<w)->bitW (fs.foldl (fun ws f=>q0z ws f.toNat) ws) g=(bitW ws g||decide ((g:Int)∈fs)):=fun fs=>by
  induction fs with
  |nil=>intro ws _ _;simp
  | cons f r m=>
    intro ws k j;obtain⟨o,p⟩:=j f z1j;rw[z4d,m _ (by rw[Ac];exact k) fun x l=>j x (z1x _ l),q3g (by omega),Bool.or_assoc];congr 1;rw[z4z];simp only[z4f,z2z,z1g];constructor
    .rintro (h|h)
     .exact .inl (by omega)
     .exact .inr h
    .rintro (h|h)
     .exact .inl (by omega)
     .exact .inr h
 rw[key fs _ (by simp) h,RS,Bool.false_or]
def Qo(w:Nat)(g i k:List Wd):List Wd:=(List.range w).map fun j=>g.getD j 0 |||(i.getD j 0 &&& ~~~(k.getD j 0))
def Oh(w:Nat)(g i k:List Wd):(Qo w g i k).length=w:=by unfold Qo;simp
def Hz{w:Nat}{g i k:List Wd}{f:Nat}(h:f/64<w):bitW (Qo w g i k) f=(bitW g f||(bitW i f && !bitW k f)):=by
 unfold bitW Qo;rw[z0a (l:=(List.range w).map _),z1u,z5b h];simp only[z3i,z2l];rw[BitVec.getLsbD_or,BitVec.getLsbD_and,BitVec.getLsbD_not];have:f%64<64:=mod_lt _ (by decide);simp[this]
def x8l{x:Wd}(h:x≠0):∃k,k<64/\x.getLsbD k=true:=by
 refine z3t fun l=>h ?_;refine BitVec.eq_of_getLsbD_eq fun i j=>?_;have:x.getLsbD i=false:=by
  cases m:x.getLsbD i with
  |false=>rfl
  |true=>exact absurd ⟨i,j,m⟩ l
 rw[this];simp
def Sz(x:Wd):(((x.toNat:Int)==0)=false)↔x≠0:=by
 constructor
 .rintro h rfl;simp at h
 .intro h;have:x.toNat≠0:=fun j=>h (BitVec.eq_of_toNat_eq (by simpa using j));simpa using this
def TY{b:List Wd}(h:c.length=b.length):Vu b c b.length=true ↔ ∃f,f/64<b.length/\bitW c f=true/\bitW b f=false:=by
 unfold Vu;rw[z3z];constructor
 .rintro ⟨i,p,v⟩;have p:=z2h.1 p;have j:(c.getD i 0 &&& ~~~(b.getD i 0))≠0:=(Sz _).1 (by simpa using v);obtain⟨k,u,m⟩:=x8l j;rw[BitVec.getLsbD_and,BitVec.getLsbD_not,z1p]at m;refine⟨64*i+k,by omega,?_,?_⟩
  .unfold bitW;rw[show(64*i+k)/64=i by omega,show(64*i+k)%64=k by omega];exact m.1
  .unfold bitW;rw[show(64*i+k)/64=i by omega,show(64*i+k)%64=k by omega];have:=m.2;simpa[u]using this
 .rintro ⟨f,t,j,o⟩;refine⟨f/64,z2h.2 t,?_⟩;have q:(c.getD (f/64) 0 &&& ~~~(b.getD (f/64) 0))≠0:=fun s=>by
   have:=z2b (fun x:Wd=>x.getLsbD (f%64)) s;simp only[BitVec.getLsbD_and,BitVec.getLsbD_not,BitVec.getLsbD_zero]at this;unfold bitW at j o;rw[j,o]at this;have l:f%64<64:=mod_lt _ (by decide);simp[l]at this
  have:=(Sz _).2 q;simpa using this
def Oo{b:List Wd}(h:c.length=b.length)(o:Vu b c b.length=false):WR b c=b:=by
 have m:∀f,f/64<b.length->bitW c f=true->bitW b f=true:=fun f s j=>by
  cases l:bitW b f with
  |true=>rfl
  |false=>rw[(TY h).2 ⟨f,s,j,l⟩]at o;cases o
 refine z8x (Fs h) fun i j l=>?_;refine BitVec.eq_of_getLsbD_eq fun k t=>?_;have p:bitW (WR b c) (64*i+k)=(WR b c)[i].getLsbD k:=by
  unfold bitW;rw[show(64*i+k)/64=i by omega,show(64*i+k)%64=k by omega,z0a,z0c j];rfl
 have e2:bitW b (64*i+k)=b[i].getLsbD k:=by
  unfold bitW;rw[show(64*i+k)/64=i by omega,show(64*i+k)%64=k by omega,z0a,z0c l];rfl
 rw[<-p,<-e2,BX h (by omega)];cases q:bitW c (64*i+k)with
 |false=>rw[Bool.or_false]
 |true=>rw[m _ (by omega) q];rfl
def q9c(w:Nat)(ws:List Wd):Nat:=(List.range (64*w)).countP (bitW ws)
def q9a(w:Nat)(ws:List Wd):q9c w ws<=64*w:=by
 unfold q9c;have:=z7a (p:=bitW ws) (l:=List.range (64*w));simpa using this
theorem T1{p q:Nat->Bool}(h:∀x,p x=true->q x=true){x:Nat}(k:p x=false)(m:q x=true):∀{l:List Nat},x∈l->l.countP p+1<=l.countP q
 |[],j=>by cases j
 | y::r,j=>by
   have o:r.countP p<=r.countP q:=List.countP_mono_left fun z _ t=>h z t;rw[List.countP_cons,List.countP_cons];rcases z1g.1 j with rfl|j
   .rw [k,m];simp;omega
   .have:=T1 h k m j;cases s:p y with
    |false=>simp;split<;>omega
    |true=>rw[h y s];simp;omega
def q3m{w:Nat}{b:List Wd}(p:b.length=w)(q:c.length=w)(o:Vu b c b.length=true):q9c w b+1<=q9c w (WR b c):=by
 obtain⟨f,m,k,l⟩:=(TY (by omega)).1 o;refine T1 (x:=f) (fun x j=>?_) l ?_ (z2h.2 (by omega))
 .by_cases h:x/64<b.length
  .rw [BX (by omega) h,j];rfl
  .unfold bitW at j;rw[z0a,z3u (by omega)]at j;simp at j
 .rw [BX (by omega) m,k,z8h]
inductive SolP(nx:List (List Int))(gen kill:List (List Wd))(f:Nat):Int->Prop
 |gen {a b:Int} (h0:0<=a) (h:bitW (gen.getD a.toNat []) f=true) (hb:b∈nx.getD a.toNat []):SolP nx gen kill f b
 |go {a b:Int} (h0:0<=a) (h:SolP nx gen kill f a) (hk:bitW (kill.getD a.toNat []) f=false) (hb:b∈nx.getD a.toNat []):SolP nx gen kill f b
structure SvS where
 O:List (List Wd)
 todo:List Int
 waits:List Bool
def jnE(goes:List Wd)(st:SvS)(b:Int):SvS:=
 bif Vu (st.O.getD b.toNat []) goes (st.O.getD b.toNat []).length && !(st.waits.getD b.toNat false)then⟨st.O.set b.toNat (WR (st.O.getD b.toNat []) goes),st.todo++[b],st.waits.set b.toNat true⟩else⟨st.O.set b.toNat (WR (st.O.getD b.toNat []) goes),st.todo,st.waits⟩
def goA(w:Nat)(gen kill:List (List Wd))(O:List (List Wd))(a:Nat):List Wd:=Qo w (gen.getD a []) (O.getD a []) (kill.getD a [])
structure SvI(n w:Nat)(nx:List (List Int))(gen kill:List (List Wd))(st:SvS):Prop where
 len:st.O.length=n
 rows:∀r∈st.O,r.length=w
 wl:st.waits.length=n
 nd:st.todo.Nodup
 rng:∀b∈st.todo,0<=b/\b<n
 wt:∀b:Int,0<=b->b<n->(st.waits.getD b.toNat false=true↔b∈st.todo)
 snd:∀b:Int,0<=b->b<n->∀f,f/64<w->bitW (st.O.getD b.toNat []) f=true->SolP nx gen kill f b
def closedA(n w:Nat)(nx:List (List Int))(gen kill:List (List Wd))(O:List (List Wd))(x:Int):Prop:=∀b∈nx.getD x.toNat [],∀f,f/64<w->bitW (goA w gen kill O x.toNat) f=true->bitW (O.getD b.toNat []) f=true
def YT(w:Nat)(O:List (List Wd)):Nat:=(O.map (q9c w)).sum
structure SvJ(n w:Nat)(nx:List (List Int))(gen kill:List (List Wd))(a:Int)(goes:List Wd)(j:Nat)(st:SvS):Prop where
 I:SvI n w nx gen kill st
 cl:∀x:Int,0<=x->x<n->x∉st.todo->x≠a->closedA n w nx gen kill st.O x
 go:a∉st.todo->goA w gen kill st.O a.toNat=goes
 pr:∀b∈(nx.getD a.toNat []).take j,∀f,f/64<w->bitW goes f=true->bitW (st.O.getD b.toNat []) f=true
theorem q1n{w:Nat}:∀(l:List (List Wd))(i:Nat)(r:List Wd)(h:i<l.length),YT w (l.set i r)+q9c w l[i]=YT w l+q9c w r
 |x::l,0,r,_=>by simp only[YT,z5v,z1t,z6d,List.getElem_cons_zero];omega
 | x::l,i+1,r,h=>by
   have:=q1n (w:=w) l i r (by simpa using h);simp only[YT,List.set_cons_succ,z1t,z6d,List.getElem_cons_succ]at this⊢;omega
theorem Hg{w:Nat}:∀(l:List (List Wd)),YT w l<=l.length*(64*w)
 |[]=>by simp[YT]
 | x::l=>by
   have j:=q9a w x;have h:=Hg (w:=w) l;simp only[YT,z1t,z6d,z2k]at h⊢;rw[z3d];omega
section
variable {n w:Nat}{nx:List (List Int)}{gen kill:List (List Wd)}(hnx : ∀ r∈nx,∀ b∈r,0<=b/\b<n)
include hnx
theorem x0i{a:Int}(ha0:0<=a)(han:a<n){goes:List Wd}(hgl:goes.length=w)(hgs:∀f,f/64<w->bitW goes f=true->∀b∈nx.getD a.toNat [],SolP nx gen kill f b){j:Nat}{st:SvS}(h:SvJ n w nx gen kill a goes j st)(hj:j<(nx.getD a.toNat []).length):
  SvJ n w nx gen kill a goes (j+1) (jnE goes st (nx.getD a.toNat [])[j])/\YT w st.O+(jnE goes st (nx.getD a.toNat [])[j]).todo.length<=YT w (jnE goes st (nx.getD a.toNat [])[j]).O+st.todo.length:=by
 obtain⟨I,Y,hgo,hpr⟩:=h;have u:=z1h hj;have htk:=z1y hj;generalize hb:(nx.getD a.toNat [])[j]=b at u htk⊢;have B:0<=b/\b<n:=by
  rw[z0a]at u;cases F:nx[a.toNat]?with
  |none=>rw[F]at u;cases u
  |some r=>rw[F]at u;exact hnx r (z1d F) b u
 have A:b.toNat<st.O.length:=by have:=I.len;omega
 have z:st.O.getD b.toNat []=st.O[b.toNat]:=by rw[z0a,z0c A];rfl
 have R:(st.O.getD b.toNat []).length=w:=by rw[z];exact I.rows _ (z1h A)
 obtain⟨row,d⟩ : ∃row,row=st.O.getD b.toNat []:=⟨_,rfl⟩;rw[<-d]at R z;have hjl:(WR row goes).length=w:=by rw[Fs (by omega)];exact R
 obtain⟨l,t⟩ : ∃l,l=st.O.set b.toNat (WR row goes):=⟨_,rfl⟩;have s:∀x:Int,0<=x->l.getD x.toNat []=if x=b then WR row goes else st.O.getD x.toNat []:=fun x p=>by
  rw[t];by_cases v:x=b
  ·rw[v,if_pos rfl,z0a,z3j A];rfl
  ·rw[if_neg v,z0a,z3p (by omega),z0a]
 have C:∀x:Int,0<=x->∀f,f/64<w->bitW (st.O.getD x.toNat []) f=true->bitW (l.getD x.toNat []) f=true:=fun x p f J k=>by
  rw[s x p];split
  ·rename_i v;rw[v,<-d]at k;rw[BX (by omega) (by omega),k];rfl
  ·exact k
 have E:∀x∈(nx.getD a.toNat []).take (j+1),∀f,f/64<w->bitW goes f=true->bitW (l.getD x.toNat []) f=true:=fun x p f J hg=>by
  have o:0<=x:=by
   have H:=z7z p;rw[z0a]at H;cases F:nx[a.toNat]?with
   |none=>rw[F]at H;cases H
   |some r=>rw[F]at H;exact(hnx r (z1d F) x H).1
  rw[htk]at p;rcases z0o.1 p with p|p
  ·exact C x o f J (hpr x p f J hg)
  ·rw[z0i]at p;rw[s x o,if_pos p,BX (by omega) (by omega),hg,z8h]
 have hI:∀(m:List Int)(q:List Bool),m.Nodup->q.length=n->(∀b∈m,0<=b/\b<n)->(∀b:Int,0<=b->b<n->(q.getD b.toNat false=true↔b∈m))->SvI n w nx gen kill ⟨l,m,q⟩:=fun m q U V h3 h4=>by
  refine⟨by rw[t,z3e];exact I.len,fun r hr=>?_,V,U,h3,h4,fun x o g f J k=>?_⟩
  ·rw[t]at hr;rcases z4t hr with h|h
   ·exact I.rows r h
   ·rw[h];exact hjl
  ·have k:bitW (l.getD x.toNat []) f=true:=k;rw[s x o]at k;split at k
   ·rename_i v;subst v;rw[BX (by omega) (by omega),z4f]at k;rcases k with k|k
    ·exact I.snd x o g f J (d▸k)
    ·exact hgs f J k x u
   ·exact I.snd x o g f J k
 have Z:=q1n (w:=w) st.O b.toNat (WR row goes) A;rw[<-t,<-z]at Z;cases hm:Vu row goes row.length with
 | false=>
   have T:=Oo (by omega) hm;have D:l=st.O:=by
    rw[t,T,z];exact List.set_getElem_self A
   have e:jnE goes st b=⟨l,st.todo,st.waits⟩:=by
    unfold jnE;rw[<-d,hm,Bool.false_and,z1o,<-t]
   rw[e];refine⟨⟨hI _ _ I.nd I.wl I.rng I.wt,?_,?_,E⟩,?_⟩
   ·rw[D];exact Y
   ·rw[D];exact hgo
   ·rw[D];exact z1l _
 | true=>
   have hc2:=q3m (w:=w) R hgl hm;have L:∀m:List Int,(∀x,x∈st.todo->x∈m)->b∈m->∀x:Int,0<=x->x<n->x∉m->x≠a->closedA n w nx gen kill l x:=fun m U V x o g p hxa y Q f J hg=>by
    have hxb:x≠b:=fun v=>p (v▸V);have hy0:0<=y:=by
     rw[z0a]at Q;cases F:nx[x.toNat]?with
     |none=>rw[F]at Q;cases Q
     |some r=>rw[F]at Q;exact(hnx r (z1d F) y Q).1
    refine C y hy0 f J (Y x o g (fun h=>p (U x h)) hxa y Q f J ?_);unfold goA at hg⊢
    rwa[s x o,if_neg hxb]at hg
   have M:∀m:List Int,(∀x,x∈st.todo->x∈m)->b∈m->a∉m->goA w gen kill l a.toNat=goes:=fun m U V h3=>by
    have hab:a≠b:=fun v=>h3 (v▸V);rw[<-hgo fun h=>h3 (U a h)];unfold goA;rw[s a ha0,if_neg hab]
   cases G:st.waits.getD b.toNat false with
   | true=>
     have K:=(I.wt b B.1 B.2).1 G;have e:jnE goes st b=⟨l,st.todo,st.waits⟩:=by
      unfold jnE;rw[<-d,hm,G,Bool.not_true,Bool.and_false,z1o,<-t]
     rw[e];refine⟨⟨hI _ _ I.nd I.wl I.rng I.wt,L st.todo (fun _ h=>h) K,M st.todo (fun _ h=>h) K,E⟩,?_⟩;show YT w st.O+st.todo.length<=YT w l+st.todo.length;omega
   | false=>
     have K:b∉st.todo:=fun h=>by
      rw[(I.wt b B.1 B.2).2 h]at G;cases G
     have e:jnE goes st b=⟨l,st.todo++[b],st.waits.set b.toNat true⟩:=by
      unfold jnE;rw[<-d,hm,G,Bool.not_false,Bool.and_true,z1n,<-t]
     have hwl:b.toNat<st.waits.length:=by have:=I.wl;omega
     rw[e];refine⟨⟨hI _ _ ?_ (by rw[z3e];exact I.wl) (fun x p=>?_) (fun x o g=>?_),L _ (fun _ h=>z3f _ h) (z3o _ (z0i.2 rfl)),M _ (fun _ h=>z3f _ h) (z3o _ (z0i.2 rfl)),E⟩,?_⟩
     ·rw[z3v];exact⟨I.nd,by simp,fun x p y Q v=>K (by rw[<-z0i.1 Q,<-v];exact p)⟩
     ·rcases z0o.1 p with p|p
      ·exact I.rng x p
      ·rw[z0i.1 p];exact B
     ·rw[z0o,z0i];by_cases v:x=b
      ·subst v;rw[z0a,z3j hwl];simp
      ·rw[z0a,z3p (by omega),<-z0a,I.wt x o g];simp[v]
     ·show YT w st.O+(st.todo++[b]).length<=YT w l+st.todo.length;rw[z0e,z2w];omega
omit hnx in
theorem q6y{a:Int}{r:List Int}{st:SvS}(h:SvI n w nx gen kill st)(s:∀x:Int,0<=x->x<n->x∉st.todo->closedA n w nx gen kill st.O x)(o:st.todo=a::r):
  SvJ n w nx gen kill a (goA w gen kill st.O a.toNat) 0 ⟨st.O,r,st.waits.set a.toNat false⟩/\∀f,f/64<w->bitW (goA w gen kill st.O a.toNat) f=true->∀b∈nx.getD a.toNat [],SolP nx gen kill f b:=by
 have j:=h.rng a (by rw[o];exact z1j);have hnd:=h.nd;rw[o,z2i]at hnd;have t:a.toNat<st.waits.length:=by have:=h.wl;omega
 refine⟨⟨⟨h.len,h.rows,by rw[z3e];exact h.wl,hnd.2,fun b k=>h.rng b (by rw[o];exact z1x _ k),fun b p q=>?_,h.snd⟩,fun x u y g v=>s x u y (by rw[o,z1g];rintro(l|l);exact v l;exact g l),fun _=>rfl,fun b k=>by simp at k⟩,fun f z m b k=>?_⟩
 ·by_cases l:b=a
  ·subst l;rw[z0a,z3j t];simp[hnd.1]
  ·show(st.waits.set a.toNat false).getD b.toNat false=true↔b∈r;rw[z0a,z3p (by omega),<-z0a,h.wt b p q,o,z1g];simp[l]
 ·unfold goA at m;rw[Hz z,z4f,z1p,z4w]at m;rcases m with m|⟨d,e⟩
  ·exact .gen j.1 m k
  ·exact .go j.1 (h.snd a j.1 j.2 f z d) e k
omit hnx in
def q3c{a:Int}{goes:List Wd}{st:SvS}(h:SvJ n w nx gen kill a goes (nx.getD a.toNat []).length st):∀x:Int,0<=x->x<n->x∉st.todo->closedA n w nx gen kill st.O x:=fun x k l o=>by
 by_cases m:x=a
 .subst m;have s:=h.go o;intro b p f q j;rw[s]at j;exact h.pr b (by rw[z4k];exact p) f q j
 .exact h.cl x k l o m
omit hnx in
theorem q7q{st:SvS}(h:SvI n w nx gen kill st)(o:∀x:Int,0<=x->x<n->x∉st.todo->closedA n w nx gen kill st.O x)(t:st.todo=[])(y:nx.length<=n){b:Int}(l:0<=b)(m:b<n){f:Nat}(p:f/64<w):bitW (st.O.getD b.toNat []) f=true↔SolP nx gen kill f b:=by
 refine⟨h.snd b l m f p,fun z=>?_⟩;have q:∀{a:Int}{b:Int},0<=a->b∈nx.getD a.toNat []->a<n:=fun {a b} k j=>by
  rw[z0a]at j;cases s:nx[a.toNat]?with
  |none=>rw[s]at j;cases j
  | some r=>
    have:=(z1k.1 s).1;omega
 clear l m;induction z with
 | @gen a b k u j=>
   refine o a k (q k j) (by rw[t];simp) b j f p ?_;unfold goA;rw[Hz p,u];rfl
 | @go a b k _ v j d=>
   refine o a k (q k j) (by rw[t];simp) b j f p ?_;unfold goA;rw[Hz p,d,v,Bool.not_false,Bool.and_true,z8h]
omit hnx in
theorem q1x(u:nx.length<=n):SvI n w nx gen kill ⟨List.replicate n (List.replicate w 0),(List.range n).map ofNat,List.replicate n true⟩:=by
 refine⟨by simp,fun r q=>by rw[(z7p.1 q).2];simp,by simp,?_,fun b o=>?_,fun b l m=>?_,fun b l m f t h=>?_⟩
 ·exact z8w.map _ fun x y k p=>k (Int.ofNat.inj p)
 ·obtain⟨x,s,rfl⟩:=z1z.1 o;have:=z2h.1 s;exact⟨z6r _,by show(x:Int)<n;omega⟩
 ·have j:b.toNat<n:=by omega
  simp only[z0a,z2q,if_pos j,z2l,true_iff];exact z1z.2 ⟨b.toNat,z2h.2 j,by show((b.toNat:Nat):Int)=b;omega⟩
 ·have j:b.toNat<n:=by omega
  simp only[z0a,z2q,if_pos j,z2l]at h;rw[RS]at h;cases h
end
inductive MrA(k a q n:Nat)(two:Bool):List LV->List LV->Prop
 |nil:MrA k a q n two [] []
 |row {ls ls0:List LV} (hs:MrA k a q n two ls ls0):MrA k a q n two (.ext k (.row a n)::ls) (.hd 1000 0 n::ls0)
 |own {m:Nat} {ls ls0:List LV} (ht:two=true) (hs:MrA k a q n two ls ls0):MrA k a q n two (.hd q 0 m::ls) (.hd 1001 0 m::ls0)
 |p {x y:AV} {ls ls0:List LV} (h:Sub x y) (hs:MrA k a q n two ls ls0):MrA k a q n two (.p x::ls) (.p y::ls0)
theorem MrA.get{k a q n:Nat}{z:Bool}{ls v:List LV}(h:MrA k a q n z ls v):ls.length=v.length/\∀(j:Nat)(t:LV),v[j]?=some t->∃l,ls[j]?=some l/\((l=.ext k (.row a n)/\t=.hd 1000 0 n)\/(∃m,z=true/\l=.hd q 0 m/\t=.hd 1001 0 m)\/∃x y,l=.p x/\t=.p y/\Sub x y):=by
 induction h with
 |nil=>exact⟨rfl,by simp⟩
 | row e u=>
   refine⟨by simp[u.1],fun j t o=>?_⟩;cases j with
   |zero=>simp at o;subst o;exact⟨_,rfl,.inl ⟨rfl,rfl⟩⟩
   |succ j=>exact u.2 j t (by simpa using o)
 | own f e u=>
   refine⟨by simp[u.1],fun j t o=>?_⟩;cases j with
   |zero=>simp at o;subst o;exact⟨_,rfl,.inr (.inl ⟨_,f,rfl,rfl⟩)⟩
   |succ j=>exact u.2 j t (by simpa using o)
 | p h e u=>
   refine⟨by simp[u.1],fun j t o=>?_⟩;cases j with
   |zero=>simp at o;subst o;exact⟨_,rfl,.inr (.inr ⟨_,_,rfl,rfl,h⟩)⟩
   |succ j=>exact u.2 j t (by simpa using o)
def EB{H:Heap}(h:(H.map (·.1)).Nodup){k:Nat}{c d:Chunk}(m:(k,c)∈H)(o:(k,d)∈H):c=d:=by
 induction H with
 |nil=>cases m
 | cons x r p=>
   rw[z1t,z2i]at h;rcases z1g.1 m with l|l
   .rcases z1g.1 o with j|j
    .exact (Prod.mk.inj (l.trans j.symm)).2
    .exact (h.1 (z1z.2 ⟨_,j,by rw[<-l]⟩)).elim
   .rcases z1g.1 o with j|j
    .exact (h.1 (z1z.2 ⟨_,l,by rw[<-j]⟩)).elim
    .exact p h.2 l j
def Jx{s:St}{K:St->Prop}{g:FuncId}{args args0:List LV}{dst:Option Nat}(k a q:Nat)(B:Bool){e e2 e3 sz3:Nat}{rows:List (List AV)}{row V:List AV}(row':List AV){R:LV->Heap->Prop}{S:AV->Prop}(ha:MrA k a q row.length B args args0)(hs:SpecH P g args0 ((1000,.own e2 sz row)::bif B then [(1001,.own e3 sz3 V)]else []) R)(hg:getH s.H k=some (.ext (.mat e e2 sz rows [])))(hrow:rows[a]?=some row)(hne:0<row.length)(hq:B=true->getH s.H q=some (.own e3 sz3 V)/\k≠q)(hR:∀l H',R l H'->∃c,l=.p c/\S c/\H'=(1000,.own e2 sz row')::bif B then [(1001,.own e3 sz3 V)]else [])(hlen:row'.length=row.length)(h:∀c,S c->Bd s.H k (.ext (.mat e e2 sz (rows.set a row') [])) fun H=>setD N s.sl dst (.p c) fun sl=>K ⟨sl,H⟩):CallK P N g args dst s K:=by
 refine⟨fun σ β ac w I vals hn hv=>⟨hs.go vals,?_⟩⟩;have O:=QT hg;have hal:a<rows.length:=(z1k.1 hrow).1;rcases I.heap.chunks k _ (QD hg)with⟨_,h0⟩|⟨i,vs,hi,hisz,hh,hvs,hle,hmax,hsl,hdis,hrows⟩
 .rw [h0]at hal;cases hal
 rcases(hrows a row hrow).2 (by simp)with⟨_,E,_⟩|⟨b,c,ws,Z,hva,hbh,hws,hrl,hc,hel⟩
 .rw [E]at hne;cases hne
 let ri:BInfo:=⟨b,c,sz,[],hc⟩;let β0:Lab:=fun j=>if j=1000 then some ri else if j=1001 then(bif B then β q else none)else none;have hri:∀t,ri.has t->t=b:=fun t D=>by
  rcases D with D|⟨c',D⟩
  .exact D.symm
  .cases D
 have hib:i.has b:=.inr ⟨c,z1d Z⟩;have e0:β0 1000=some ri:=rfl;have e1:B=true->β0 1001=β q:=fun f=>by show(bif B then β q else none)=_;rw[f];rfl
 let H0:Heap:=(1000,.own e2 sz row)::bif B then [(1001,.own e3 sz3 V)]else [];have hlab0:∀j∈H0.map (·.1),j=1000\/(B=true/\j=1001):=fun j A=>by
  simp only[H0,z1t,z1g]at A;rcases A with A|A
  .exact .inl A
  .cases f:B with
   |true=>rw[f]at A;exact .inr ⟨rfl,by simpa using A⟩
   |false=>rw[f]at A;cases A
 have hq1:B=true->q∈s.H.map (·.1):=fun f=>QT (hq f).1;have U:∀j∈H0.map (·.1),∀L,β0 j=some L->∀t,L.has t->(j=1000/\t=b)\/(B=true/\j=1001/\∃Q,β q=some Q/\Q.has t):=fun j A L C t D=>by
  rcases hlab0 j A with rfl|⟨f,rfl⟩
  .rw [e0]at C;cases C;exact .inl ⟨rfl,hri t D⟩
  .rw [e1 f]at C;exact .inr ⟨f,rfl,L,C,D⟩
 have hown:∀t,owns β0 H0 t->t=b\/(B=true/\∃Q,β q=some Q/\Q.has t):=fun t ⟨j,A,L,C,D⟩=>by
  rcases U j A L C t D with⟨_,h⟩|⟨f,_,h⟩
  .exact .inl h
  .exact .inr ⟨f,h⟩
 have hownS:∀t,owns β0 H0 t->owns β s.H t:=fun t ho=>by
  rcases hown t ho with rfl|⟨f,Q,E,J⟩
  .exact ⟨k,O,i,hi,hib⟩
  .exact ⟨q,hq1 f,Q,E,J⟩
 have hH0:HRel σ β0 H0 w:=by
  refine⟨I.heap.mem,fun j d A=>?_,?_,fun j A L C t D=>?_,fun j A j' hj' i1 i2 E J t hb1 hb2=>?_⟩
  .simp only[H0,z1g]at A;rcases A with A|A
   .cases A;exact .inr ⟨ri,ws,e0,rfl,hbh,hws,hrl,hc,hel⟩
   .cases f:B with
    |false=>rw[f]at A;cases A
    | true=>
      rw[f,z1n,z0i]at A;cases A;have:=I.heap.chunks q _ (QD (hq f).1);rcases this with⟨E,J⟩|⟨i2,rest⟩
      .exact .inl ⟨(e1 f).trans E,J⟩
      .exact .inr ⟨i2,by rw[e1 f];exact rest⟩
  .cases B<;>simp[H0]
  .rcases U j A L C t D with⟨_,rfl⟩|⟨f,_,Q,E,J⟩
   .exact I.heap.apart k O i hi _ hib
   .exact I.heap.apart q (hq1 f) Q E t J
  .rcases U j A i1 E t hb1 with⟨rfl,rfl⟩|⟨f,rfl,Q,Y,h4⟩<;>rcases U j' hj' i2 J _ hb2 with⟨rfl,h5⟩|⟨ht2,rfl,iq2,h5,F⟩
   .rfl
   .exact absurd (I.heap.inj k O q (hq1 ht2) i iq2 hi h5 _ hib F) (hq ht2).2
   .subst h5;exact absurd (I.heap.inj k O q (hq1 f) i Q hi Y _ hib h4) (hq f).2
   .rfl
 obtain⟨hal0,hget⟩:=ha.get;refine(hs.ok σ β0 w vals (hn.trans hal0) (fun j l0 A=>?_) hH0).mono fun ex w' ⟨l,u,σ',β1,H',he,hRl,hrep,hH',z⟩=>?_
 .obtain ⟨l,E,⟨rfl,rfl⟩|⟨m,f,rfl,rfl⟩|⟨x,y,rfl,rfl,J⟩⟩:=hget j l0 A
  .have Y:=hv j _ E;generalize vals.getD j undef=v at Y;cases Y with
   | ext _ _ L _ hk hd=>
     rw[hi]at hk;cases hk;rcases hd with⟨h4,_⟩|⟨t,c',h4,h5,rfl⟩
     .rw [Z]at h4;cases h4
     .rw [Z]at h4;cases h4;have:=z8f (σ:=σ) (β:=β0) 1000 0 row.length ri 0 e0 (by simpa using hrl) (.inl (by simp));simpa using this
  .have Y:=hv j _ E;rcases Y.hdI with⟨h4,_,h5,F⟩|⟨i3,o,h4,h5,F,h7⟩
   .subst h5;rw[F];exact .hdn 1001 ((e1 f).trans h4)
   .rw [h7];exact .hd 1001 0 m i3 o ((e1 f).trans h4) h5 F
  .have Y:=hv j _ E;cases Y with
   |p Y=>exact .p (J _ _ Y)
 .obtain ⟨c0,rfl,hS,rfl⟩:=hR l H' hRl;have p0:β1 1000=some ri:=(z.pin 1000 (by omega) (by omega)).trans e0;have p1:B=true->β1 1001=β q:=fun f=>(z.pin 1001 (by omega) (by omega)).trans (e1 f);have T:∀t,t<w.heap.size->¬owns β0 H0 t->w'.heap[t]?=w.heap[t]?:=fun t D hn=>z.P.block t D hn;have hstay:∀t,owns β0 H0 t->σ' t=none:=fun t ho=>by
   rcases hown t ho with rfl|⟨f,Q,E,J⟩
   .exact (hH'.apart 1000 (by simp) ri p0 _ ri.has_blk).1
   .exact (hH'.apart 1001 (by rw[f];simp) Q ((p1 f).trans E) t J).1
  have hnew:∀t,σ t=none->t<w.heap.size->σ' t=none:=fun t E J=>by
   cases hq:σ' t with
   |none=>rfl
   | some x=>
     rcases z.mem t E (by rw[hq];simp)with Y|Y
     .rw [hstay t Y]at hq;cases hq
     .omega
  have M:∀j∈s.H.map (·.1),(B=true->j≠q)->∀L,β j=some L->∀t,L.has t->(j=k->t≠b)->w'.heap[t]?=w.heap[t]?:=fun j A hjq L C t D hjb=>by
   refine T t (I.heap.apart j A L C t D).2 fun ho=>?_;rcases hown t ho with rfl|⟨f,Q,E,J⟩
   .have:=I.heap.inj j A k O L i C hi _ D hib;exact hjb this rfl
   .exact hjq f (I.heap.inj j A q (hq1 f) L Q C E t D J)
  obtain⟨H2,J,g3,g4,g5⟩:=GO I.heap.nodup (h c0 hS);have hkq:B=true->k≠q:=fun f=>(hq f).2;have hheap:HRel σ' β H2 w':=by
   refine⟨hH'.mem,fun j d A=>?_,by rw[g3];exact I.heap.nodup,fun j A L C t D=>?_,fun j A j' hj'=>I.heap.inj j (g3▸A) j' (g3▸hj')⟩
   .by_cases hjk:j=k
    .subst hjk;rw[g5 d A];have hblk:w'.heap[i.blk]?=w.heap[i.blk]?:=M _ O hkq i hi i.blk i.has_blk fun _ he=>(hdis a b c Z).1 he;refine .inr ⟨i,vs,hi,hisz,hblk.trans hh,hvs,by simpa using hle,hmax,by simpa using hsl,hdis,fun p x hx=>⟨fun hin=>by(cases hin),fun _=>?_⟩⟩;by_cases hp:p=a
     .subst hp;rw[z3j hal]at hx;cases hx;rcases hH'.chunks 1000 _ z1j with⟨F,_⟩|⟨i6,ws6,F,h7,h8,h9,h10,h11,h12⟩
      .rw [p0]at F;cases F
      .rw [p0]at F;cases F;exact .inr ⟨b,c,ws6,Z,by rw[hlen];exact hva,h8,h9,h10,h11,h12⟩
     .rw [z3p (z5q hp)]at hx;rcases(hrows p x hx).2 (by simp)with F|⟨t,c',ws',F,h7,h8,h9,h10,h11,h12⟩
      .exact .inl F
      .have hbb:t≠b:=fun he=>hp ((hdis a b c Z).2 p c' (he▸F));refine .inr ⟨t,c',ws',F,h7,(M _ O hkq i hi t (.inr ⟨c',z1d F⟩) fun _=>hbb).trans h8,h9,h10,h11,fun m y hy=>⟨(h12 m y hy).1,fun j' c'' hj'=>?_⟩⟩;obtain⟨u',h13,h14⟩:=(h12 m y hy).2 j' c'' hj';exact⟨u',h13,h14.mono z.le⟩
    .have hm:=g4 j d A hjk;have hjl:j∈s.H.map (·.1):=z1z.2 ⟨_,hm,rfl⟩;by_cases hjq:B=true/\j=q
     .obtain ⟨f,rfl⟩:=hjq;have hd:d=.own e3 sz3 V:=by
       have:=QD (hq f).1;exact EB I.heap.nodup hm this
      subst hd;have hq':=hH'.chunks 1001 (.own e3 sz3 V) (by rw[f];simp);rcases hq' with⟨F,h7⟩|⟨i6,rest⟩
      .exact .inl ⟨(p1 f).symm.trans F,h7⟩
      .exact .inr ⟨i6,by rw[<-p1 f];exact rest⟩
     .exact (I.heap.chunks j d hm).mono z.le fun i' hi' t D=>M j hjl (fun f he=>hjq ⟨f,he⟩) i' hi' t D fun he=>absurd he hjk
   .have:=I.heap.apart j (g3▸A) L C t D;exact⟨hnew t this.1 this.2,z4c this.2 z.P.size⟩
  have hr1:Rel N σ' β ⟨s.sl,H2⟩ ac w':=⟨I.size,I.defers,fun j=>(I.G j).mono z.le,hheap⟩;have hrep':RepL σ' β (.p c0) u:=by
   cases hrep with
   |p hrep=>exact .p hrep
  obtain⟨sl,hK,hr2⟩:=hr1.setD hrep' J;refine⟨u,σ',β,_,he,hK,hr2,z.le,⟨z.P.os,z.P.tape,z.P.output,z.P.drawn,z.P.size,fun t D hn=>T t D fun ho=>hn (hownS t ho)⟩,fun t E J=>(z.mem t E J).imp (hownS t) id,fun t ⟨j,A,r⟩=>.inl ⟨j,g3▸A,r⟩,fun _ _ _=>rfl⟩
def Fk(g:List (List Int)×List (List Int)):aP 269 [YW g] (.int .i64 g.1.length):=by
 refine sC Ui func269 ?_;conv=>whnf
 have h:((avI g.1).map AV.sl).length=g.1.length:=by unfold avI;rw[z0s,z0s]
 repeat' ((refine iM fun _=>?_)<;>conv=>whnf)
 all_goals first
  |exact RetK.int (by rw[h])
def LG(l:List Int)(m:l.length<=1000000):aP 305 [QG l] (QG l):=by
 refine sC BI func305 ?_;conv=>whnf
 have j:(l.map (AV.int .i64)).length=l.length:=z0s _;repeat' ((first|refine z1s rfl ?_|refine aD ?_|refine Bc ZI rfl rfl rfl rfl (fun q k=>?_)|refine z5l (fun x h=>by cases h) rfl ?_|refine AppK.mk (n:=0) rfl rfl (by show _*8<=140737488355328;omega) (by show _<=9223372036854775807;omega) (fun x h=>by obtain⟨y,_,rfl⟩:=z1z.1 h;exact⟨rfl,rfl⟩) ?_|(apply bB<;>intro _))<;>conv=>whnf)
 all_goals first
  |exact⟨_,.p Sub.nils,by rw[z7g.1 (k (by assumption))];rfl⟩
  |exact⟨_,.hd rfl (by simp),rfl⟩
def Ky(g:List (List Int)×List (List Int))(a:Int)(m:∀r∈g.1,r.length<=1000000):aP 270 [YW g,.int .i64 a] (QG (if WH g.1.length a=true then g.1.getD a.toNat []else [])):=by
 refine sC W4 func270 ?_;conv=>whnf
 have hH:=MC g a;cases j:WH g.1.length a with
 | false=>
   rw[j]at hH;repeat' ((first|refine cP hH ?_|(apply bN<;>intro _))<;>conv=>whnf)
   all_goals first
    |contradiction
    |exact⟨_,.p Sub.nils,rfl⟩
 | true=>
   rw[j]at hH;have o:0<=a/\a<g.1.length:=by
    unfold WH at j;simpa using j
   have h:a.toNat<g.1.length:=by omega
   have l:((avI g.1).map AV.sl)[a.toNat]?=some (QG (g.1.getD a.toNat [])):=by
    unfold avI;rw[z1u,z1u,z0a,z0c h];rfl
   have k:=LG (g.1.getD a.toNat []) (by rw[z0a,z0c h];exact m _ (z1h h));rw[if_pos rfl];generalize g.1.getD a.toNat []=row at*
   repeat' ((first|refine cP hH ?_|refine iT l ?_|refine cP k ?_|(apply bN<;>intro _))<;>conv=>whnf)
   all_goals first
    |contradiction
    |exact⟨_,.p (Sub.refl _),rfl⟩
def eWm(m:List (List Wd)):List (List AV):=m.map fun r=>r.map eW
def Wc(m:List (List Wd)):AV:=.sl ((eWm m).map .sl)
def q2r(w:Nat)(l:List (List Int))(i:Nat):List (List Wd):=(l.take i).map (PN w)++List.replicate (l.length-i) []
def q6s(w:Nat)(l:List (List Int))(h:i<=l.length):(q2r w l i).length=l.length:=by
 unfold q2r;rw[z0e,z0s,z1r,z2o];omega
def q6c(w:Nat)(l:List (List Int))(h:i<l.length):(q2r w l i).set i (PN w l[i])=q2r w l (i+1):=by
 unfold q2r;have j:((l.take i).map (PN w)).length=i:=by rw[z0s,z1r];omega
 rw[z4o _ _ (by omega),j,z6x,show l.length-i=(l.length-(i+1))+1 by omega,z6b,z5v,z1y h,z1v,z1m];rfl
def EW{h:Nat}{sl:List (Nat×LV)}(n:Nat)(j:(sl.all fun x=>x.2.xfree 0)=true):
  Le h ⟨sl,[(0,.own 292 1 (List.replicate n .nils))]⟩ ⟨sl,[(0,.ext (.mat 292 269 1 (List.replicate n []) []))]⟩:=by
 have k:=Wy (N:=h) (sl:=sl) (H:=[(0,.own 292 1 (List.replicate n .nils))])
  (H':=[(0,.ext (.mat 292 269 1 (List.replicate (List.replicate n AV.nils).length []) []))])
  0 269 1 (e:=292) (es:=List.replicate n .nils) rfl (fun x l=>z4j l) rfl j rfl rfl (by simp[DK])
 simpa using k
def Ng(l:List (List Int))(hl:l.length<=5000)(hr:∀r∈l,r.length<=5000)(k:Nat)(hm:k<=5000)(T:∀r∈l,∀f∈r,0<=f/\f<k):aP 209 [eMat l,.int .i64 k] (.tup [Wc (l.map (PN (k/64+1))),.tt]):=by
 refine sC Ro func209 ?_;conv=>whnf
 have D:((avI l).map AV.sl).length=l.length:=by unfold avI;rw[z0s,z0s]
 obtain⟨w,K⟩ : ∃w,w=k/64+1:=⟨_,rfl⟩;rw[<-K];have A:=q3t k;repeat' ((first|(refine gX ?_;intros)|refine z6t l.length (by omega) (by show 24*_<=140737488355328;omega) (by unfold maxLen;omega) ?_)<;>conv=>whnf)
 refine lJ (fun i:Nat=>⟨[(1,.j k),(6,.hd 0 0 l.length),(14,.p (eMat l)),(15,.j l.length),(16,.j i)],[(0,.ext (.mat 292 269 1 (eWm (q2r w l i)) []))]⟩) (fun i=>i<=l.length) (fun i=>l.length-i) 0 (by
   refine Le.trans (EW l.length rfl) ?_;exact lE (hsl:=.r (.r (.r (.cons (.of_eq (by rw[D];rfl)) (.r .nil))))) (hH:=.cons rfl (.of_eq (by simp[eWm,q2r])) .nil)) (z1q _) ?_
 intro i hi;rcases z1w i l.length with s|s
 .have hsl:=q6s w l hi;have z:=q6c w l s;have G:=hr _ (z1h s);have d:=T _ (z1h s);have e:((avI l).map AV.sl)[i]?=some (QG l[i]):=by unfold avI;rw[z1u,z1u,z0c s];rfl
  generalize q2r w l i=rows at hsl z⊢;generalize l[i]=fs at z G d e;have R:(eWm rows).length=l.length:=by unfold eWm;rw[z0s,hsl]
  have Y:(fs.map (AV.int .i64)).length=fs.length:=z0s _;conv=>whnf
  repeat' ((first|(refine iM fun _=>?_)|refine z1s rfl ?_|refine aR ?_|(refine iA fun _=>?_)|refine z1s (by decide) ?_|refine Wr.i64 (by first|omega|(rw[A];omega)) (by first|omega|(rw[A];omega)) ?_|refine z6t w (by rw[K,A];omega) (by show 8*_<=140737488355328;omega) (by unfold maxLen;omega) ?_|refine z4u i rfl s ?_|refine MG ZI rfl rfl rfl rfl rfl rfl rfl rfl rfl (by decide) i [] (by omega) (by omega) (by simp) ⟨by simp,by simp,by simp⟩ ?_|(apply bD<;>intro _<;>try omega))<;>conv=>whnf)
  have B:∀h,(avI l)[i]'h=fs.map (.int .i64):=fun h=>by
   have o:=e;rw[z1u,z0c h]at o;have O:AV.sl (avI l)[i]=.sl (fs.map (.int .i64)):=z3q o;exact(AV.sl.inj O)
  simp only[B];refine lJ (fun j:Nat=>⟨[(1,.j k),(6,.hd 0 0 l.length),(7,.j i),(14,.p (eMat l)),(15,.j l.length),(16,.j i),(28,.p (QG fs)),(29,.p (.int .i64 (fs.map (AV.int .i64)).length)),(30,.j j)],[(0,.ext (.mat 292 269 1 ((eWm rows).set i ((PN w (fs.take j)).map eW)) []))]⟩) (fun j=>j<=fs.length) (fun j=>fs.length-j) 0 (Le.of_eq (by simp[PN];exact⟨⟨rfl,rfl⟩,rfl⟩)) (z1q _) ?_;intro j hj;rcases z1w j fs.length with o|o
  .obtain ⟨U,V⟩:=d _ (z1h o);have J:=q0k w fs o;have g:=Gd w (fs.take j);have C:fs[j]=((fs[j].toNat:Nat):Int):=by omega
   have Z:(fs.map (AV.int .i64))[j]?=some (.int .i64 fs[j]):=by rw[z1u,z0c o];rfl
   generalize PN w (fs.take j)=ws at*
   have t:=Bp ws fs[j].toNat (by rw[g,K];omega) (by omega);rw[<-C,<-J]at t;have F:(PN w (fs.take (j+1))).length=ws.length:=by rw[Gd,g]
   generalize M:PN w (fs.take (j+1))=ws' at*
   have L:(ws.map eW).length=ws.length:=z0s _;have x:SpecH prog 268 [.hd 1000 0 (ws.map eW).length,.p (.int .i64 fs[j])] ((1000,.own 269 1 (ws.map eW))::bif false then [(1001,.own 0 0 [])]else []) (fun r H=>(∃b,r=.p (.bool b))/\H=[wsH 1000 ws']):=by rw[L];exact t
   have v:((eWm rows).set i (ws.map eW))[i]?=some (ws.map eW):=z3j (by omega);have I:((eWm rows).set i (ws.map eW)).set i (ws'.map eW)=(eWm rows).set i (ws'.map eW):=List.set_set _;conv=>whnf
   repeat' ((first|(refine gX ?_;intros)|refine z4u i rfl s ?_|refine RowK.mk i (ws.map eW) (by omega) v (by simp) ?_|(refine Jx 0 i 0 false (ws'.map eW) (S:=fun c=>∃b,c=.bool b) (.row (.p (Sub.refl _) .nil)) x rfl v (by omega) (fun h=>by cases h) (fun l' H' hh=>by obtain⟨⟨b,Q⟩,hH⟩:=hh;exact⟨_,Q,⟨b,rfl⟩,hH⟩) (by rw[z0s,z0s,F]) ?_;rintro _ ⟨b,rfl⟩)|(apply bD<;>intro _<;>try omega))<;>conv=>whnf)
   all_goals first
    |(exfalso;omega)
    |exact⟨j+1,o,by omega,Le.of_eq (by rw[I,M];rfl)⟩
  .have m:fs.take j=fs:=z1f o;rw[m];have E:(eWm rows).set i ((PN w fs).map eW)=eWm (rows.set i (PN w fs)):=by unfold eWm;rw[z3w]
   rw[E,z];conv=>whnf
   repeat' ((first|refine wI ?_|(apply bD<;>intro _<;>try omega))<;>conv=>whnf)
   all_goals first
    |(exfalso;omega)
    |exact nX (i+1) s
 .obtain rfl:i=l.length:=by omega
  have m:q2r w l l.length=l.map (PN w):=by unfold q2r;rw[z4k,z6x];simp
  rw[m];conv=>whnf
  repeat' (apply bD<;>intro _<;>first|omega|conv=>whnf)
  all_goals exact⟨_,.tup (cs:=[Wc (l.map (PN w)),.tt]) rfl (fun q u c y a=>by
   match q,y,a with
   |0,y,a=>cases y;cases a;exact .mat rfl (by unfold eWm;simp)
   |1,y,a=>cases y;cases a;exact .p (Sub.refl _)
   |q+2,y,_=>simp at y),rfl⟩
theorem RepE.drop{σ:Mem}{vs:List Value}(h:RepE σ sz es vs)(k:Nat):RepE σ sz (es.drop k) (vs.drop (k*sz)):=by
 refine⟨by rw[z3n,z3n,h.len,Nat.sub_mul],fun i e l=>?_,fun i e j c l m=>?_⟩
 .rw [z3h]at l;exact h.size _ e l
 .rw [z3h]at l;obtain⟨u,q,o⟩:=h.rep _ e j c l m;exact⟨u,by rw[z3h,<-z4l,<-z3d];exact q,o⟩
def My{σ:Mem}{β:Lab}{w:World}{k:Nat}{e:TypeId}{l:TyI}{xs:List AV}(t ty:TypeId)(ht:P.underlying t=some (.slice e))(hie:TyOK P e l)(hz:l.zero.cells.size=l.size)(U:(Chunk.own e l.size es).holds σ β w k){off n:Nat}(hoff:0<off)(hn:off+n=es.length){v:Value}(hv:RepL σ β (.hd k off n) v){x:Value}{h:List Value}{J:Addr}{c:Nat}(hx:x=.slice (some J) xs.length c)(z:∀(j:Nat)(u:Value),h[j]?=some u->w.cell? (J.add j)=some u)(q:RepE σ l.size xs h)(h1:∀u∈h,u.oneCell'=true)(hxs:0<xs.length)(K:n+xs.length<=maxLen)(g:(n+xs.length)*l.bytes<=140737488355328)(hlt:∀i,β k=some i->∀b,i.has b->b<w.heap.size):
  ∃v' w' i',(Builtin.append_ #[t,t] ty #[v,x]).run P w=.ok v' w'/\Frm (fun b=>∃i,β k=some i/\i.has b) w w'/\
   (∀i,i'=some i->∀b,i.has b->b<w'.heap.size/\((∃i0,β k=some i0/\i0.has b)\/w.heap.size<=b))/\
   (((Chunk.own e l.size (es++xs)).holds σ (β.set k i') w' k/\RepL σ (β.set k i') (.hd k off (n+xs.length)) v')\/
     ((Chunk.own e l.size (es.drop off++xs)).holds σ (β.set k i') w' k/\RepL σ (β.set k i') (.hd k 0 (n+xs.length)) v')):=by
 obtain⟨fi,L,a,hfb,hfz⟩:=hie.getInfo;have d:∀i':Option BInfo,(β.set k i') k=i':=fun i'=>by simp[Lab.set]
 have R:(n+xs.length:Nat)<=(9223372036854775807:Int):=by simp only[maxLen]at K;omega
 rcases VH.1 U with⟨hb0,rfl⟩|⟨i,vs,B,s,hh,hvs,hlen,E,hE⟩
 .simp at hn;omega
 rcases hv.hdI with⟨O,_⟩|⟨i',o,O,hl,D,hvv⟩
 .rw [B]at O;cases O
 rw[B]at O;cases O;subst hx hvv;have C:=q.len;by_cases H:n+xs.length<=i.cap-off
 .have hoo:o=off*l.size:=by
   rcases D with D|D
   .rw [<-s];exact D
   .omega
  subst hoo;have V:es.length+xs.length<=i.cap:=by omega
  have e1:off*l.size+n*l.size=es.length*l.size:=by rw[<-z3d,hn]
  have M:off*l.size+n*l.size+h.length<=vs.size:=by rw[e1,C,hvs,<-z3d];exact z2c _ V
  have Z:(Builtin.append_ #[t,t] ty #[.slice (some ⟨i.blk,off*l.size,none⟩) n (i.cap-off),.slice (some J) xs.length c]).run P w =
    .ok (.slice (some ⟨i.blk,off*l.size,none⟩) (n+xs.length) (i.cap-off)) (w.setRow i.blk (vs.toList.take (off*l.size+n*l.size)++h++vs.toList.drop (off*l.size+n*l.size+h.length)).toArray):=by
   have hf:=run_firstCells_some (P:=P) w fi.size xs.length J xs.length c h (by rw[a];exact C) z;rw[a]at hf;have Y:=run_storeCells_at P i.blk (off*l.size+n*l.size) e h 0 vs w hh (by simpa using M) h1;simp only[z6s]at Y;simp[Builtin.append_,run_underlying ht,sizeOf,typeInfo,L,Builtin.lenOf,H,hf,HJ,a,Y]
  have f:β.set k (some i)=β:=by funext j;unfold Lab.set;split<;>simp_all
  refine⟨_,_,some i,Z,⟨rfl,rfl,rfl,z1l _,by simp,fun b _ hnb=>setRow_other w i.blk b _ fun he=>hnb ⟨i,B,.inl he.symm⟩⟩,fun i1 h1 b f=>?_,.inl ⟨?_,?_⟩⟩
  .cases h1;exact⟨by simpa using hlt i B b f,.inl ⟨i,B,f⟩⟩
  .rw [f,e1];refine VH.2 (.inr ⟨i,_,B,s,setRow_heap w i.blk vs _ e _ hh,?_,by simpa using V,E,?_⟩)
   .simp only[z5x,z0e,z1r,z3n,z3r];omega
   .have p:=hE.append q;rw[show(vs.toList.take (es.length*l.size)++h++vs.toList.drop (es.length*l.size+h.length)).toArray.toList.take ((es++xs).length*l.size)=vs.toList.take (es.length*l.size)++h by
     rw[<-p.len];simp only[List.take_left]]
    exact p
  .rw [f];exact .hd k off (n+xs.length) i (off*l.size) B (by omega) (.inl (by rw[s]))
 .obtain ⟨m,hO,A⟩ : ∃m,RepE σ l.size (es.drop off) m/\∀(j:Nat)(u:Value),m[j]?=some u->w.cell? ((⟨i.blk,o,none⟩:Addr).add j)=some u:=by
   refine⟨_,hE.drop off,fun j u I=>?_⟩;have hu0:=I;rw[z3h,z2p]at I;rcases D with D|D
   .rw [HJ,D,s];split at I
    .simp only[World.cell?,hh];simpa using I
    .cases I
   .have hn0:n=0:=by omega
    split at I
    .rename_i Q;have:es.length=off:=by omega
     rw[this]at Q;omega
    .cases I
  have F:(es.drop off).length=n:=by rw[z3n];omega
  have Z:=run_append_grow (P:=P) w t ty e fi l.zero ht L hfz ⟨i.blk,o,none⟩ n (i.cap-off) m (by rw[a,hO.len,F]) A J xs.length c h (by rw[a];exact C) z (by omega) R (by rw[hfb];exact growslice_fits (by omega) g);have G:=grownCap_ge w (n+xs.length) (i.cap-off) e;have y:=grownCap_le_maxLen w (n+xs.length) (i.cap-off) e K;generalize grownCap w (n+xs.length) (i.cap-off) e=cap at G y Z;have hsz:(w.drew.alloc (.cells (m.toArray++h.toArray++Builtin.zeroCells l.zero.cells (cap-(n+xs.length))) e)).heap.size=w.heap.size+1:=by
   show(w.heap.push _).size=_;simp
  have p:=hO.append q;have T:(w.drew.alloc (.cells (m.toArray++h.toArray++Builtin.zeroCells l.zero.cells (cap-(n+xs.length))) e)).heap[w.heap.size]?=some (.cells (m.toArray++h.toArray++Builtin.zeroCells l.zero.cells (cap-(n+xs.length))) e (0,0)):=heap_alloc_new w.drew _;refine⟨_,_,some ⟨w.heap.size,cap,l.size,[],y⟩,Z,⟨rfl,rfl,rfl,Nat.le_succ _,by omega,fun b f _=>by first|exact heap_alloc_old w.drew _ b f|exact heap_alloc_old w.drew _ f⟩,fun i B b f=>?_,.inr ⟨VH.2 (.inr ⟨⟨w.heap.size,cap,l.size,[],y⟩,_,d _,rfl,T,?_,by rw[z0e,F];exact G,y,?_⟩),?_⟩⟩
  .cases B;rw[Za]at f;exact⟨by omega,.inr (by omega)⟩
  .simp only[Array.size_append,z5x,size_zeroCells,hz,hO.len,C,F];rw[<-z3d,<-z3d];congr 1;omega
  .rw [show(m.toArray++h.toArray++Builtin.zeroCells l.zero.cells (cap-(n+xs.length))).toList.take ((es.drop off++xs).length*l.size)=m++h by
    rw[<-p.len];simp only[Array.toList_append];exact List.take_left]
   exact p
  .have:=z8f (σ:=σ) (β:=β.set k (some ⟨w.heap.size,cap,l.size,[],y⟩)) k 0 (n+xs.length) ⟨w.heap.size,cap,l.size,[],y⟩ 0 (d _) (by simpa using G) (.inl (by simp));simpa using this
def E6{T:Tab}(hT:TabOK P T){s:St}{o:Oper}{K:St->Prop}{x y:Operand}{t:TypeId}(hop:o.op=.call {callee:=.builtin .append,args:=#[x,y],argTypes:=#[t,t]}){k off n:Nat}(M:QR s.sl x=.hd k off n)(E:0<off){i q:TyI}{e:TypeId}(ht:T.get t=some i)(hd:i.desc=.slice e)(hie:T.get e=some q)(hg:getH s.H k=some (.own e sz es))(hsz:sz=q.size)(hz:q.zero.cells.size=q.size)(g:0<q.size)(hn:off+n=es.length){xs:List AV}(hy:QR s.sl y=.p (.sl xs))(hxl:0<xs.length)(R:∀x∈xs,x.cells.length=q.size/\x.cells.all AV.one=true)(h63:n+xs.length<=maxLen)(hb:(n+xs.length)*q.bytes<=140737488355328)(u:x3v k <|Fe s.sl k fun sl=>MI s.H k (.own e sz (es++xs)) fun H=>setD N sl o.dst (.hd k off (n+xs.length)) fun sl=>K ⟨sl,H⟩)(Z:x3v k <|Fe s.sl k fun sl=>MI s.H k (.own e sz (es.drop off++xs)) fun H=>setD N sl o.dst (.hd k 0 (n+xs.length)) fun sl=>K ⟨sl,H⟩):OpK P N s o K:=by
 refine⟨fun σ β a w d Q=>?_⟩;subst hsz;have O:=QU d.G x;rw[M]at O;have hu:=hT.of ht;rw[hd]at hu;have f:=QT hg;obtain⟨V,m,⟨rfl,rfl⟩,L⟩:=AG d (y:=y) (C:=fun ys m=>ys=xs/\m=xs.length) (sz:=q.size) (by unfold q8s;rw[hy];exact⟨rfl,rfl⟩) g;obtain⟨news,B,hE⟩:=L rfl fun x M=>(R x M).1;have F:=hE.oneAll g fun x M=>(R x M).2;rcases B with⟨_,hnn⟩|⟨ad,c,B,A⟩
 .have:=hE.len;rw[hnn,z5p]at this;rcases Nat.mul_eq_zero.1 this.symm with h|h<;>omega
 obtain⟨v',w',i',J,D,hi',z⟩:=My (P:=P) t o.type hu (hT _ _ hie) hz (d.heap.chunks k _ (QD hg)) E hn O B A hE F hxl h63 hb (fun i hi b hb=>(d.heap.apart k f i hi b hb).2);have fin:∀(es':List AV)(l:Nat),(Chunk.own e q.size es').holds σ (β.set k i') w' k->RepL σ (β.set k i') (.hd k l (n+V.length)) v'->(x3v k <|Fe s.sl k fun sl=>MI s.H k (.own e q.size es') fun H=>setD N sl o.dst (.hd k l (n+V.length)) fun sl=>K ⟨sl,H⟩)->
   o.wp P a w (fun a' w'=>∃σ' β' s',K s'/\Rel N σ' β' s' a' w'/\Later σ β s.H w σ' β' s'.H w') Q:=fun es' l hch hv' v=>by
  obtain⟨hpk,v⟩:=TL v;obtain⟨U,v,hs1⟩:=Zw v;obtain⟨H1,v,hH1,hH2,hH3⟩:=PK v;obtain⟨hh,hl⟩:=Ta d.heap hpk f D hi' hH1 (fun j c hj hne=>by
   obtain⟨c0,u,rfl⟩:=hH2 j c hj hne;exact⟨Chunk.kill_free k c0,(d.heap.chunks j c0 u).kill k⟩) (fun c hc=>by rw[hH3 c hc];exact hch)
  have I:Rel N σ (β.set k i') ⟨U,H1⟩ a w':=⟨d.size,d.defers,fun i=>by
   obtain⟨u,Z⟩:=hs1 i;have:RepL σ β (getS U i) (a.tmps.getD i undef):=by
    rcases u with u|u
    .rw [u];exact d.G i
    .rw [u];exact .p (.any _)
   exact this.set i' Z,hh⟩
  obtain⟨sl,v,hr'⟩:=I.setD hv' v;refine ZP (w':=w') ?_ ⟨σ,_,_,v,hr',hl⟩;simp[execOp,hop,resolve,invoke,builtin,J]
 rcases z with⟨g1,Y⟩|⟨g1,Y⟩
 .exact fin _ _ g1 Y u
 .exact fin _ _ g1 Y Z
def svA(w n a:Nat):List (List Wd):=List.replicate a (List.replicate w 0)++List.replicate (n-a) []
def tdA(n a:Nat):List Int:=(List.range a).map ofNat++List.replicate (n-a) 0
def wtA(n a:Nat):List Bool:=List.replicate a true++List.replicate (n-a) false
def x2y{w n a:Nat}(h:a<n):(svA w n a).set a (List.replicate w 0)=svA w n (a+1):=by
 unfold svA;rw[z4o _ _ (by simp),z2o,z6x,show n-a=(n-(a+1))+1 by omega,z6b,z5v,List.replicate_succ' (n:=a),z1m];rfl
def x2k{n a:Nat}(h:a<n):(tdA n a).set a (a:Int)=tdA n (a+1):=by
 unfold tdA;rw[z4o _ _ (by simp),z0s,z4q,z6x,show n-a=(n-(a+1))+1 by omega,z6b,z5v,z5m,z1v,z1m];rfl
def x3x{n a:Nat}(h:a<n):(wtA n a).set a true=wtA n (a+1):=by
 unfold wtA;rw[z4o _ _ (by simp),z2o,z6x,show n-a=(n-(a+1))+1 by omega,z6b,z5v,List.replicate_succ' (n:=a),z1m];rfl
def x2u{w n a:Nat}(h:a<=n):(svA w n a).length=n:=by unfold svA;simp;omega
def x2j{n a:Nat}(h:a<=n):(tdA n a).length=n:=by unfold tdA;simp;omega
def x3q{n a:Nat}(h:a<=n):(wtA n a).length=n:=by unfold wtA;simp;omega
def svO(h:Int):Heap:=[(1,.obj 221 [.p .nils,.p (.int .i64 h)]),(0,.obj 221 [.p .nils,.p (.int .i64 0)])]
def svH(O:List (List Wd))(h:List Int)(k:List Bool)(j:Int):Heap:=(4,.own 4 1 (k.map bv))::(3,.own 3 1 (h.map (.int .i64)))::(2,.ext (.mat 292 269 1 (eWm O) []))::svO j
def q7z{sl:List (Nat×LV)}(n:Nat)(es ws:List AV)(h:Int)(j:(sl.all fun x=>x.2.xfree 2)=true):
  Le N ⟨sl,(4,.own 4 1 ws)::(3,.own 3 1 es)::(2,.own 292 1 (List.replicate n .nils))::svO h⟩ ⟨sl,(4,.own 4 1 ws)::(3,.own 3 1 es)::(2,.ext (.mat 292 269 1 (List.replicate n []) []))::svO h⟩:=by
 have k:=Wy (N:=N) (sl:=sl) (H:=(4,.own 4 1 ws)::(3,.own 3 1 es)::(2,.own 292 1 (List.replicate n .nils))::svO h)
  (H':=(4,.own 4 1 ws)::(3,.own 3 1 es)::(2,.ext (.mat 292 269 1 (List.replicate (List.replicate n AV.nils).length []) []))::svO h)
  2 269 1 (e:=292) (es:=List.replicate n .nils) rfl (fun x l=>z4j l) rfl j rfl rfl (by simp[DK,svO])
 simpa using k
def x5w(O:List (List Wd)){a:Nat}(o:(eWm O).length=a)(m:Nat)(q:Int):
  Le N ⟨[(3,.p (.int .i64 m)),(8,.ptr 0 0),(9,.ptr 1 0),(11,.hd 2 0 a),(130,.p (.int .i64 a)),(131,.p (.int .i64 0))],(2,.ext (.mat 292 269 1 (eWm O) []))::svO q⟩
   ⟨[(3,.p (.int .i64 m)),(8,.ptr 0 0),(9,.ptr 1 0),(11,.p (Wc O)),(130,.p (.int .i64 a)),(131,.p (.int .i64 0))],svO q⟩:=by
 refine q2c (k:=2) (e:=292) (e2:=269) (sz:=1) (rows:=eWm O) rfl (fun i=>?_) (by show [1,0].Sublist [2,1,0];decide) fun j c' s=>?_
 .refine SlRel.get (P:=fun l l'=>l'=l.kill 2\/(l=.hd 2 0 (eWm O).length/\l'=.p (.sl ((eWm O).map .sl)))) (.inl rfl) ?_ i;exact .cons (.inl rfl) (.cons (.inl rfl) (.cons (.inl rfl) (.cons (.inr ⟨by rw[o],rfl⟩) (.cons (.inl rfl) (.cons (.inl rfl) .nil)))))
 .rcases z1g.1 s with h|h
  .cases h;exact⟨by decide,z1x _ z1j,rfl⟩
  .rcases z0i.1 h with h;cases h;exact⟨by decide,z1x _ (z1x _ z1j),rfl⟩
def q4g{goes:List Wd}{w:Nat}(j:goes.length=w)(h:i<w):(goes.take i++List.replicate (w-i) 0).set i (goes[i]'(by omega))=goes.take (i+1)++List.replicate (w-(i+1)) 0:=by
 rw[z4o _ _ (by rw[z1r];omega),z1r,show i-min i goes.length=0 by omega,show w-i=(w-(i+1))+1 by omega,z6b,z5v,z1y (by omega),z1m];rfl
def Cg(g:List (List Int)×List (List Int))(n:Nat)(hn:n<=5000)(hg:XT n g.1)(D:∀r∈g.1,r.length<=1000000)(k:Nat)(hm:k<=5000)(gen kill:List (List Wd))(hgn:gen.length=n)(hkn:kill.length=n)(hgw:∀r∈gen,r.length=k/64+1)(hkw:∀r∈kill,r.length=k/64+1):SpecP prog 210 [YW g,Wc gen,Wc kill,.int .i64 k] (fun r=>∃(O:List (List Wd)) (Z:Int),(∀b:Int,0<=b->b<n->∀f,f/64<k/64+1->(bitW (O.getD b.toNat []) f=true↔SolP g.1 gen kill f b))/\O.length=n/\r=.agg [eMat (O.map fun row=>KF row k),.int .i64 Z]):=by
 refine sC M5 func210 ?_;conv=>whnf
 have hgl0:=D;have hL:=Fk g;have hgl1:g.1.length=n:=hg.1;rw[hgl1]at hL;obtain⟨w,hw⟩ : ∃w,w=k/64+1:=⟨_,rfl⟩;rw[<-hw];rw[<-hw]at hgw hkw;have e7:=q3t k;repeat' ((first|(refine gX ?_;intros)|refine cP hL ?_|refine z6t n (by omega) (by first|(show 24*_<=140737488355328;omega)|(show 8*_<=140737488355328;omega)|(show 1*_<=140737488355328;omega)) (by unfold maxLen;omega) ?_)<;>conv=>whnf)
 refine lJ (fun a:Nat=>⟨[(0,.p (YW g)),(1,.p (Wc gen)),(2,.p (Wc kill)),(3,.j k),(8,.ptr 0 0),(9,.ptr 1 0),(11,.hd 2 0 n),(12,.hd 3 0 n),(13,.hd 4 0 n),(30,.j n),(31,.j a)],svH (svA w n a) (tdA n a) (wtA n a) 0⟩) (fun a=>a<=n) (fun a=>n-a) 0 (by
   refine Le.trans (q7z n _ _ 0 rfl) ?_;exact Le.of_eq (by simp[svH,svA,tdA,wtA,eWm,bv];exact⟨rfl,.inr rfl,.inr rfl⟩)) (z1q _) ?_
 intro a ha;rcases z1w a n with d|d
 .have g1:=x2y (w:=w) d;have g2:=x2k d;have g3:=x3x d;have l1:=x2u (w:=w) ha;have l2:=x2j ha;have l3:=x3q ha;have x2:((tdA n a).map (AV.int .i64))[a]?=some (.int .i64 ((tdA n a)[a]'(by omega))):=by rw[z1u,z0c (by omega)];rfl
  have x3:((wtA n a).map bv)[a]?=some (bv ((wtA n a)[a]'(by omega))):=by rw[z1u,z0c (by omega)];rfl
  generalize(tdA n a)[a]'(by omega)=o2 at x2;generalize(wtA n a)[a]'(by omega)=o3 at x3;have q1:(eWm (svA w n a)).set a (List.replicate w (.int .u64 0))=eWm (svA w n (a+1)):=by rw[<-g1];unfold eWm;rw[z3w,z4y];rfl
  have q2:((tdA n a).map (AV.int .i64)).set a (.int .i64 a)=(tdA n (a+1)).map (AV.int .i64):=by rw[<-g2,z3w]
  have q3:((wtA n a).map bv).set a .tt=(wtA n (a+1)).map bv:=by rw[<-g3,z3w];rfl
  generalize svA w n a=O at*
  generalize tdA n a=td at*
  generalize wtA n a=wt at*
  have hel:(eWm O).length=n:=by unfold eWm;rw[z0s,l1]
  unfold svH svO;conv=>whnf
  repeat' ((first|refine z1s rfl ?_|refine aR ?_|refine z1s (by decide) ?_|refine Wr.i64 (by first|omega|(rw[e7];omega)) (by first|omega|(rw[e7];omega)) ?_|refine z6t w (by rw[hw,e7];omega) (by show 8*_<=140737488355328;omega) (by unfold maxLen;omega) ?_|refine z4u a rfl d ?_|refine MG ZI rfl rfl rfl rfl rfl rfl rfl rfl rfl (by decide) a [] (by omega) (by omega) (by simp) ⟨by simp,by simp,by simp⟩ ?_|refine sO (.int .i64 a) x2 ?_|refine z6g a 0 _ .tt (by omega) x3 (z1l 1) (by cases o3<;>rfl) ?_|(apply bD<;>intro _<;>try omega))<;>conv=>whnf)
  all_goals exact⟨a+1,d,by omega,Le.of_eq (by show _=St.mk _ (svH (svA w n (a+1)) (tdA n (a+1)) (wtA n (a+1)) 0);unfold svH svO;rw[<-q1,<-q2,<-q3];rfl)⟩
 .obtain rfl:a=n:=by omega
  have hB:a*(64*w)<=5000*(64*79):=z8q hn (by omega);have hst:=q1x (n:=a) (w:=w) (nx:=g.1) (gen:=gen) (kill:=kill) (by omega);have i1:svA w a a=List.replicate a (List.replicate w 0):=by unfold svA;simp
  have i2:tdA a a=(List.range a).map ofNat:=by unfold tdA;simp
  have i3:wtA a a=List.replicate a true:=by unfold wtA;simp
  rw[i1,i2,i3];conv=>whnf
  repeat' (apply bD<;>intro _<;>first|omega|conv=>whnf)
  refine lJ (fun x:SvS×List Int×Int=>⟨[(0,.p (YW g)),(1,.p (Wc gen)),(2,.p (Wc kill)),(3,.j k),(8,.ptr 0 0),(9,.ptr 1 0),(11,.hd 2 0 a),(12,.hd 3 x.2.1.length x.1.todo.length),(13,.hd 4 0 a)],svH x.1.O (x.2.1++x.1.todo) x.1.waits x.2.2⟩) (fun x=>SvI a w g.1 gen kill x.1/\(∀y:Int,0<=y->y<a->y∉x.1.todo->closedA a w g.1 gen kill x.1.O y)/\0<=x.2.2/\(x.2.1.length:Int)<=x.2.2/\x.2.2.toNat+(a*(64*w)+x.1.todo.length-YT w x.1.O)<=a*(64*w)+a) (fun x=>a*(64*w)+x.1.todo.length-YT w x.1.O) (⟨List.replicate a (List.replicate w 0),(List.range a).map ofNat,List.replicate a true⟩,[],0) (lE (hnd:=by simp[svH,svO]) (hsl:=.r (.r (.r (.r (.r (.r (.r (.cons (.of_eq (by simp only[z0s,z4q];rfl)) (.r .nil)))))))))) ⟨hst,fun y h0 d hy=>absurd (z1z.2 ⟨y.toNat,z2h.2 (by omega),by show((y.toNat:Nat):Int)=y;omega⟩) hy,z8d _,z8d _,by simp only[z0s,z4q];omega⟩ ?_;rintro⟨st,pre,Z⟩ ⟨Q,H,ht0,hpt,K⟩;simp only at Q H ht0 hpt K⊢;cases C:st.todo with
  | nil=>
    rw[C]at H K;unfold svH svO;conv=>whnf
    repeat' ((first|(refine gX ?_;intros)|(apply bD<;>intro _<;>try omega))<;>conv=>whnf)
    all_goals try (exfalso;simp only[z5p]at*;omega)
    obtain⟨O,todo,t⟩:=st;simp only at C Q H K⊢;subst C;have E:=Q.len;simp only at E;have hel:(eWm O).length=a:=by unfold eWm;rw[z0s,E]
    have hfin:∀b:Int,0<=b->b<a->∀f,f/64<w->(bitW (O.getD b.toNat []) f=true↔SolP g.1 gen kill f b):=fun b h0 d f hf=>q7q Q H rfl (by omega) h0 d hf;have hrow:=Q.rows;simp only at hrow;refine lJ (fun i:Nat=>⟨[(3,.j k),(8,.ptr 0 0),(9,.ptr 1 0),(11,.p (Wc O)),(130,.j a),(131,.j i)],[(1,.obj 221 [.hd 5 0 i,.j Z]),(0,.obj 221 [.p .nils,.j 0]),(5,.own 54 1 ((O.take i).map fun r=>QG (KF r k)))]⟩) (fun i=>i<=a) (fun i=>a-i) 0 (by
      refine Le.trans (x5w (N:=_) O hel k Z) ?_;exact lM [(5,.own 54 1 [])] (hH:=.cons rfl (.obj (.cons (.nil z1j) (.r .nil))) (.cons rfl (.refl _) (.new z1j .nil)))) (z1q _) ?_
    intro i hi;rcases z1w i a with d|d
    .have hlt:i<O.length:=by omega
     have eI:((eWm O).map AV.sl)[i]?=some (.sl (O[i].map eW)):=by unfold eWm;rw[z1u,z1u,z0c hlt];rfl
     have hrl:=hrow _ (z1h hlt);have hLi:=Dr O[i] k (by omega) (by omega);have hacl:((O.take i).map fun r=>QG (KF r k)).length=i:=by rw[z0s,z1r];omega
     have hacs:((O.take (i+1)).map fun r=>QG (KF r k))=((O.take i).map fun r=>QG (KF r k))++[QG (KF O[i] k)]:=by rw[z1y hlt,z1v];rfl
     generalize((O.take i).map fun r=>QG (KF r k))=A at hacl hacs⊢;generalize O[i]=row at*
     conv=>whnf
     repeat' ((first|refine dA ?_|refine z1s rfl ?_|refine aD ?_|refine bP ?_|refine wI ?_|refine iT eI ?_|refine cP hLi ?_|refine pA 1 24 hacl.symm ?_|(apply bD<;>intro _<;>try omega)|refine z1s ?_ ?_)<;>conv=>whnf)
     all_goals first
      |(exfalso;omega)
      |exact⟨i+1,d,by omega,Le.of_eq (by rw[hacs];rfl)⟩
    .obtain rfl:i=a:=by omega
     have R:((O.take i).map fun r=>QG (KF r k))=O.map fun r=>QG (KF r k):=by rw[z1f (by omega)]
     have hal2:(O.map fun r=>QG (KF r k)).length=i:=by rw[z0s,E]
     rw[R];conv=>whnf
     repeat' ((first|refine z1s rfl ?_|(apply bD<;>intro _<;>try omega))<;>conv=>whnf)
     all_goals try (exfalso;omega)
     have he:(avI (O.map fun row=>KF row k)).map AV.sl=O.map fun r=>QG (KF r k):=by
      unfold avI;rw[z4e,z4e];rfl
     refine⟨_,.agg (cs:=[eMat (O.map fun row=>KF row k),.int .i64 Z]) rfl fun q l c d F=>?_,⟨O,Z,hfin,E,rfl⟩⟩
     match q,d,F with
     | 0,d,F=>
       cases d;cases F;show Frz _ _ (.sl ((avI (O.map fun row=>KF row k)).map AV.sl));rw[he];exact .hd rfl hal2.symm
     |1,d,F=>cases d;cases F;exact .p (Sub.refl _)
     |q+2,d,F=>simp at d
  | cons x r=>
    have har:=Q.rng x (by rw[C];exact z1j);obtain⟨hJ,J⟩:=q6y Q H C;have hca:=Hg (w:=w) st.O;rw[Q.len]at hca;rw[C]at K;simp only[z2k]at K;obtain⟨O,todo,t⟩:=st;simp only at C Q H K hJ J hca⊢;subst C;obtain⟨s,hxn⟩ : ∃s:Nat,x=s:=⟨x.toNat,by omega⟩;subst hxn;rw[z3y]at hJ J;have hxl:s<a:=by omega
    have E:=Q.len;have hwl:=Q.wl;simp only at E hwl;have hiw:=Q.rows _ (z1h (show s<O.length by omega));have e1:((pre++(s:Int)::r).map (AV.int .i64))[pre.length]?=some (.int .i64 s):=by rw[z1u,z2f (z1l _),z6x];rfl
    have e2:(t.map bv)[s]?=some (bv (t[s]'(by omega))):=by rw[z1u,z0c (by omega)];rfl
    generalize t[s]'(by omega)=w0 at e2;have hrm:(t.map bv).set s .ff=(t.set s false).map bv:=by rw[z3w];rfl
    have hwm:(t.map bv).length=a:=by rw[z0s,hwl]
    have hpm:((pre++(s:Int)::r).map (AV.int .i64)).length=pre.length+(r.length+1):=by simp
    unfold svH svO;conv=>whnf
    repeat' ((first|(refine iM fun _=>?_)|refine z1s rfl ?_|refine aR ?_|refine z4u 0 rfl (by simp) ?_|refine lO e1 ?_|refine SlK.mk 1 (r.length+1) rfl rfl (by omega) (by simp) ?_|refine iO s ?_|refine z6g s 0 _ .ff (by omega) e2 (z1l 1) (by cases w0<;>rfl) ?_|refine z1s (by decide) ?_|refine Wr.i64 (by first|omega|(rw[e7];omega)) (by first|omega|(rw[e7];omega)) ?_|refine z6t w (by rw[hw,e7];omega) (by show 8*_<=140737488355328;omega) (by unfold maxLen;omega) ?_|(apply bD<;>intro _<;>try omega))<;>conv=>whnf)
    all_goals try (exfalso;simp only[z2k]at*;omega)
    have hxg:s<gen.length:=by omega
    have hxk:s<kill.length:=by omega
    have hG:=hgw _ (z1h hxg);have hK:=hkw _ (z1h hxk);have eG:((eWm gen).map AV.sl)[s]?=some (.sl (gen[s].map eW)):=by unfold eWm;rw[z1u,z1u,z0c hxg];rfl
    have eK:((eWm kill).map AV.sl)[s]?=some (.sl (kill[s].map eW)):=by unfold eWm;rw[z1u,z1u,z0c hxk];rfl
    have eI:(eWm O)[s]?=some ((O[s]'(by omega)).map eW):=by unfold eWm;rw[z1u,z0c (by omega)];rfl
    have hel:(eWm O).length=a:=by unfold eWm;rw[z0s,E]
    have hgoes:goA w gen kill O s=Qo w gen[s] (O[s]'(by omega)) kill[s]:=by
     unfold goA;rw[z0a,z0c hxg,z0a,z0c (by omega),z0a,z0c hxk];rfl
    rw[hgoes]at hJ J;generalize hgG:gen[s]=G at*
    generalize hgK:kill[s]=Kr at*
    generalize hgI:O[s]'(by omega)=I at*
    have D:(Qo w G I Kr).length=w:=Oh _ _ _ _;refine lJ (fun i:Nat=>⟨[(0,.p (YW g)),(1,.p (Wc gen)),(2,.p (Wc kill)),(3,.j k),(8,.ptr 0 0),(9,.ptr 1 0),(11,.hd 2 0 a),(12,.hd 3 (pre.length+1) r.length),(13,.hd 4 0 a),(15,.j s),(16,.hd 5 0 w),(69,.j w),(70,.j i)],(5,.own 269 1 (((Qo w G I Kr).take i++List.replicate (w-i) 0).map eW))::svH O (pre++(s:Int)::r) (t.set s false) (Z+1)⟩) (fun i=>i<=w) (fun i=>w-i) 0 (Le.of_eq (by unfold svH svO;simp[hrm,eW];exact⟨rfl,rfl,.inr rfl⟩)) (z1q _) ?_;intro i hi;rcases z1w i w with d|d
    .have gI:(I.map eW)[i]?=some (.int .u64 ((I[i]'(by omega)).toNat:Int)):=Ik (by omega);have gG:(G.map eW)[i]?=some (.int .u64 ((G[i]'(by omega)).toNat:Int)):=Ik (by omega);have gK:(Kr.map eW)[i]?=some (.int .u64 ((Kr[i]'(by omega)).toNat:Int)):=Ik (by omega);have U:=q4g (goes:=Qo w G I Kr) (w:=w) D d;have hgi:(Qo w G I Kr)[i]'(by omega)=G[i]'(by omega) |||(I[i]'(by omega) &&& ~~~ (Kr[i]'(by omega))):=by
      unfold Qo;rw[z4b,z7b,z0a,z0c (by omega),z0a,z0c (by omega),z0a,z0c (by omega)];rfl
     rw[hgi]at U;obtain⟨A,hacc⟩ : ∃A,A=((Qo w G I Kr).take i++List.replicate (w-i) 0):=⟨_,rfl⟩;have hal:A.length=w:=by rw[hacc,z0e,z1r,z2o];omega
     have gA:(A.map eW)[i]?=some (eW (A[i]'(by omega))):=by rw[z1u,z0c (by omega)];rfl
     rw[<-hacc]at U⊢;generalize A[i]'(by omega)=o5 at gA;generalize I[i]'(by omega)=x1 at*
     generalize G[i]'(by omega)=x2 at*
     generalize Kr[i]'(by omega)=x3 at*
     have hst2:(A.map eW).set i (eW (x2 |||(x1 &&& ~~~x3)))=((Qo w G I Kr).take (i+1)++List.replicate (w-(i+1)) 0).map eW:=by rw[<-U,z3w]
     have ham:(A.map eW).length=w:=by rw[z0s,hal]
     have hIm:(I.map eW).length=w:=by rw[z0s];exact hiw
     unfold svH svO;conv=>whnf
     repeat' ((first|refine dA ?_|refine z1s rfl ?_|refine wI ?_|refine iT eG ?_|refine iT gG ?_|refine iT eK ?_|refine iT gK ?_|refine iO s ?_|refine iO i ?_|refine RowK.mk s _ (by omega) eI (by simp) ?_|refine RLd.mk _ i 0 _ eI (by simp) (by omega) gI ?_|refine JA rfl x1 x3 _ rfl rfl rfl rfl (.inr (.inr ⟨rfl,rfl⟩)) ?_|refine JA rfl x2 _ _ rfl rfl rfl rfl (.inr (.inl ⟨rfl,rfl⟩)) ?_|refine sO (eW (x2 |||(x1 &&& ~~~x3))) gA ?_|(apply bD<;>intro _<;>try omega))<;>conv=>whnf)
     all_goals first
      |(exfalso;omega)
      |exact⟨i+1,d,by omega,Le.of_eq (by rw[<-hst2];rfl)⟩
    .have hie:i=w:=by omega
     rw[hie];have R:(Qo w G I Kr).take w++List.replicate (w-w) 0=Qo w G I Kr:=by rw[z1f (by omega),z6x];simp
     rw[R];obtain⟨z,hgw2⟩ : ∃z,z=Qo w G I Kr:=⟨_,rfl⟩;rw[<-hgw2]at D J hJ⊢;have hNx:=Ky g s hgl0;have hhas:WH g.1.length (s:Int)=true:=by unfold WH;simp;omega
     rw[if_pos hhas,z3y]at hNx;unfold svH svO;conv=>whnf
     repeat' ((first|(refine iM fun _=>?_)|refine cP hNx ?_|(apply bD<;>intro _<;>try omega))<;>conv=>whnf)
     all_goals try (exfalso;omega)
     have hnx:∀r∈g.1,∀b∈r,0<=b/\b<a:=hg.2;have hnxl:(g.1.getD s []).length<=1000000:=by
      rw[z0a,z0c (by omega)];exact hgl0 _ (z1h (by omega))
     have hnr:∀b∈g.1.getD s [],0<=b/\b<a:=fun b hb=>by
      rw[z0a,z0c (by omega)]at hb;exact hnx _ (z1h (by omega)) b hb
     obtain⟨u,T⟩ : ∃u,u=g.1.getD s []:=⟨_,rfl⟩;have hE:∀{st:SvS},SvJ a w g.1 gen kill s z u.length st->∀x:Int,0<=x->x<a->x∉st.todo->closedA a w g.1 gen kill st.O x:=fun {st} h=>by
      subst T;exact q3c h
     have hJn:∀{j:Nat}{st:SvS},SvJ a w g.1 gen kill s z j st->∀Y:j<u.length,SvJ a w g.1 gen kill s z (j+1) (jnE z st u[j])/\YT w st.O+(jnE z st u[j]).todo.length<=YT w (jnE z st u[j]).O+st.todo.length:=fun {j st} h Y=>by
      subst T;exact x0i hnx har.1 har.2 D J h Y
     rw[<-T]at hnr hnxl⊢;clear J hNx;have hnl:(u.map (AV.int .i64)).length=u.length:=z0s _;refine lJ (fun x:Nat×SvS×List Int=>⟨[(0,.p (YW g)),(1,.p (Wc gen)),(2,.p (Wc kill)),(3,.j k),(8,.ptr 0 0),(9,.ptr 1 0),(11,.hd 2 0 a),(12,.hd 3 x.2.2.length x.2.1.todo.length),(13,.hd 4 0 a),(16,.hd 5 0 w),(102,.p (QG u)),(103,.p (.int .i64 (u.map (AV.int .i64)).length)),(104,.j x.1)],(5,.own 269 1 (z.map eW))::svH x.2.1.O (x.2.2++x.2.1.todo) x.2.1.waits (Z+1)⟩) (fun x=>x.1<=u.length/\SvJ a w g.1 gen kill s z x.1 x.2.1/\YT w O+x.2.1.todo.length<=YT w x.2.1.O+r.length/\(x.2.2.length:Int)<=Z+1) (fun x=>u.length-x.1) (0,⟨O,r,t.set s false⟩,pre++[(s:Int)]) (Le.of_eq (by unfold svH svO;simp;rfl)) ⟨z1q _,hJ,z1l _,by simp;omega⟩ ?_;rintro⟨j,⟨o,e,m⟩,pre2⟩ ⟨h2,F,h4,h5⟩;simp only at h2 F h4 h5⊢;have hca2:=Hg (w:=w) o;have hl2:=F.I.len;simp only at hl2;rw[hl2]at hca2;rcases z1w j u.length with Y|Y
     .obtain ⟨L,M⟩:=hJn F Y;have hbr:=hnr _ (z1h Y);obtain⟨v,hbj⟩ : ∃v:Nat,u[j]=v:=⟨u[j].toNat,by omega⟩;rw[hbj]at L M hbr;have hbl:v<o.length:=by omega
      have hwl2:=F.I.wl;simp only at hwl2;unfold jnE at L M;simp only[z3y]at L M;rw[z0a,z0c hbl,z2l,z0a,z0c (show v<m.length by omega),z2l]at L M;have hrw:=F.I.rows _ (z1h hbl);have eR:(eWm o)[v]?=some (o[v].map eW):=by unfold eWm;rw[z1u,z0c hbl];rfl
      have eW2:(m.map bv)[v]?=some (bv (m[v]'(by omega))):=by rw[z1u,z0c (by omega)];rfl
      have B:(eWm o).set v ((WR o[v] z).map eW)=eWm (o.set v (WR o[v] z)):=by unfold eWm;rw[z3w]
      have V:(m.map bv).set v .tt=(m.set v true).map bv:=by rw[z3w];rfl
      generalize o[v]=row at*
      generalize m[v]'(by omega)=wb at*
      have hjo:=I5 row z (by omega) (by omega);have hjl:=Fs (b:=row) (c:=z) (by omega);have hrm2:(row.map eW).length=w:=by rw[z0s];exact hrw
      have hgm2:(z.map eW).length=w:=by rw[z0s];exact D
      have hel2:(eWm o).length=a:=by unfold eWm;rw[z0s,hl2]
      have hwm2:(m.map bv).length=a:=by rw[z0s,hwl2]
      have hjo2:aH 271 [.hd 1000 0 (row.map eW).length,.hd 1001 0 w] ((1000,.own 269 1 (row.map eW))::bif true then [(1001,.own 269 1 (z.map eW))]else []) (.p (.bool (Vu row z row.length))) [wsH 1000 (WR row z),wsH 1001 z]:=by
       rw[hrm2];rw[hrw,D]at hjo;rw[hrw];exact hjo
      generalize Vu row z row.length=mv at*
      unfold svH svO;rcases wb with _|_;rcases pre2 with _|⟨y,p2⟩;all_goals
       conv=>whnf
       repeat' ((first|(refine gX ?_;intros)|refine z4u v hbj (by omega) ?_|refine RowK.mk v _ (by omega) eR (by simp) ?_|(refine Jx 2 v 5 true ((WR row z).map eW) (S:=fun c=>c=.bool mv) (.row (.own rfl .nil)) hjo2 rfl eR (by omega) (fun _=>⟨rfl,by decide⟩) (fun l' H' hh=>by obtain⟨h8,h9⟩:=hh;exact⟨_,h8,rfl,h9⟩) (by rw[z0s,z0s,hjl]) ?_;rintro _ rfl)|refine lO eW2 ?_|refine sO .tt eW2 ?_|refine pI ?_|refine E6 ZI rfl rfl (Nat.succ_pos _) rfl rfl rfl rfl rfl rfl (by decide) (by rw[z0s,z0e]) rfl (Nat.succ_pos _) (fun x hx=>by rcases z0i.1 hx with rfl;exact⟨rfl,rfl⟩) (by show _+1<=maxLen;unfold maxLen;omega) (by show(_+1)*8<=_;omega) ?_ ?_|((first|apply bD|apply bB)<;>intro _<;>try omega))<;>conv=>whnf)
       all_goals try (exfalso;simp_all;done)
       all_goals first
        | (have hq:(mv && !true)=false:=by simp[*]
           rw[hq,z1o]at L M;exact⟨(j+1,⟨o.set v (WR row z),e,m⟩,_),⟨Y,L,by simp only at M⊢;omega,h5⟩,by simp only;omega,Le.of_eq (by rw[<-B];rfl)⟩)
        | (have hq:(mv && !false)=false:=by simp[*]
           rw[hq,z1o]at L M;exact⟨(j+1,⟨o.set v (WR row z),e,m⟩,_),⟨Y,L,by simp only at M⊢;omega,h5⟩,by simp only;omega,Le.of_eq (by rw[<-B];rfl)⟩)
        | (have hq:(mv && !false)=true:=by simp[*]
           rw[hq,z1n]at L M;exact⟨(j+1,⟨o.set v (WR row z),e++[(v:Int)],m.set v true⟩,_),⟨Y,L,by simp only[z0e,z2w]at M⊢;omega,h5⟩,by simp only;omega,Le.of_eq (by simp only[svH,svO,<-B,<-V,hbj,z1v,z1m,z0e,z1t,z5h];rfl)⟩)
        | (have hq:(mv && !false)=true:=by simp[*]
           rw[hq,z1n]at L M;exact⟨(j+1,⟨o.set v (WR row z),e++[(v:Int)],m.set v true⟩,[]),⟨Y,L,by simp only[z0e,z2w]at M⊢;omega,by simp only[z5p];omega⟩,by simp only;omega,Le.of_eq (by rw[<-List.map_drop,List.drop_left];simp only[svH,svO,<-B,<-V,hbj,z1v,z1m,z0e,z1t,z5h];rfl)⟩)
     .obtain rfl:j=u.length:=by omega
      have hcl2:=hE F;unfold svH svO;conv=>whnf
      repeat' (apply bD<;>intro _<;>first|omega|conv=>whnf)
      all_goals try (exfalso;omega)
      all_goals first
       |exact⟨(⟨o,e,m⟩,pre2,Z+1),⟨F.I,hcl2,by simp only;omega,h5,by simp only;omega⟩,by simp only[z2k];omega,lE⟩
def x9f(n:Nat)(steps:List (Int×Int))(gen kill:List (List Int))(h:Nat)(r:AV):Prop:=∃(O:List (List Wd)) (tm:Int),(∀b:Int,0<=b->b<n->∀f,f/64<h/64+1->(bitW (O.getD b.toNat []) f=true↔SolP (QE n steps).1 (gen.map (PN (h/64+1))) (kill.map (PN (h/64+1))) f b))/\O.length=n/\r=.tup [.agg [eMat (O.map fun row=>KF row h),.int .i64 tm],.tt]
def AJ(n:Nat)(F:n<=5000)(steps:List (Int×Int))(J:steps.length<=1000000)(K:∀s∈steps,(0<=s.1/\s.1<n)/\0<=s.2/\s.2<n)(gen kill:List (List Int))(D:gen.length=n)(E:kill.length=n)(h:Nat)(A:h<=5000)(o:∀r∈gen,r.length<=5000/\∀f∈r,0<=f/\f<h)(v:∀r∈kill,r.length<=5000/\∀f∈r,0<=f/\f<h):SpecP prog 159 [.int .i64 n,.sl (avP steps),eMat gen,eMat kill,.int .i64 h] (fun r=>x9f n steps gen kill h r):=by
 refine sC E2 func159 ?_;conv=>whnf
 have H:((avI gen).map AV.sl).length=n:=by unfold avI;rw[z0s,z0s,D]
 have I:((avI kill).map AV.sl).length=n:=by unfold avI;rw[z0s,z0s,E]
 have L:(avP steps).length=steps.length:=z0s _;repeat' ((first|(refine iM fun _=>?_)|((first|apply bD|apply bE)<;>intro _<;>try omega))<;>conv=>whnf)
 all_goals try (exfalso;omega)
 refine lI (fun j:Nat=>⟨[(0,.j n),(1,.p (.sl (avP steps))),(2,.p (eMat gen)),(3,.p (eMat kill)),(4,.j h),(10,.ptr 0 0),(45,.p (.sl (avP steps))),(46,.p (.int .i64 (avP steps).length)),(47,.j j)],[(0,.obj 221 [.p .nils,.j 0])]⟩) (fun j=>j<=steps.length) (fun j=>steps.length-j) 0 (z1q _) ?_;intro j Q;rcases z1w j steps.length with z|z
 .have B:=K _ (z1h z);have m:(avP steps)[j]?=some (.agg [.int .i64 steps[j].1,.int .i64 steps[j].2]):=by unfold avP;rw[z1u,z0c z];rfl
  generalize steps[j]=s at*
  obtain⟨x,y⟩:=s;simp only at B m;conv=>whnf
  repeat' ((first|refine z1s rfl ?_|refine wI ?_|refine iT m ?_|refine z4u 0 rfl (by decide) ?_|refine z4u 1 rfl (by decide) ?_|(apply bD<;>intro _<;>try omega))<;>conv=>whnf)
  all_goals first
   |(exfalso;omega)
   |exact nX (j+1) z
 .have G:=Fg n F steps J;have a:=Ng gen (by omega) (fun r k=>(o r k).1) h A (fun r k=>(o r k).2);have d:=Ng kill (by omega) (fun r k=>(v r k).1) h A (fun r k=>(v r k).2);have g:=(HH n steps).1;have q:∀r∈(QE n steps).1,r.length<=1000000:=fun r k=>by
   have C:=(LE (n:=n) (l:=steps) (z1l _)).1;rw[z4k]at C;have:=(C.2 r k).2;omega
  have e:=Cg (QE n steps) n F g q h A (gen.map (PN (h/64+1))) (kill.map (PN (h/64+1))) (by rw[z0s,D]) (by rw[z0s,E]) (fun r k=>by obtain⟨x,_,rfl⟩:=z1z.1 k;exact Gd _ _) (fun r k=>by obtain⟨x,_,rfl⟩:=z1z.1 k;exact Gd _ _);conv=>whnf
  repeat' ((first|refine z1s rfl ?_|refine cP a ?_|refine cP d ?_|refine cP G ?_|(refine CallK.pure e (.cons (Sub.refl _) (.cons (Sub.refl _) (.cons (Sub.refl _) (.cons (Sub.refl _) .nil)))) ?_;rintro _ ⟨O,M,t,u,rfl⟩)|(apply bD<;>intro _<;>try omega))<;>conv=>whnf)
  all_goals first
   |(exfalso;omega)
   |contradiction
   |exact⟨_,.p (Sub.refl _),O,M,t,u,rfl⟩
end Go.Ab
