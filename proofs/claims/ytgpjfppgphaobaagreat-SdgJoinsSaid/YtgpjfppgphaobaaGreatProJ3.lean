/- The reckoning 'valW' is sound: slices, indexes, literals; and the whole. Conditions: the table of types is the program's own. -/
import Derived.Laws.OwnMore
import Derived.Test.YtgpjfppgphaobaaGreatProJ2
set_option linter.all false
set_option maxRecDepth 100000
set_option maxHeartbeats 16000000
open Array (ext')
open Nat (ble blt)
namespace Go.Ab
variable {k:Nat}{t:TypeId}{v:Value}{v1:List Value}
section
variable {P:Program}{T:Tab}{hr:Bool}{σ:Mem}{β:Lab}{a:Act}{w:World}{o:Oper}{K:LV->Prop}{s:St}
def HI(r:∀i,RepL σ β (getS s.sl i) (a.tmps.getD i undef)){x:Option Operand}{l:Option Int}(h:M1 s.sl x=some l):
  (l=none/\x=none)\/∃y k n,x=some y/\l=some n/\a.eval y=.int k n:=by
 cases x with
 |none=>simp[M1]at h;exact .inl ⟨h.symm,rfl⟩
 | some y=>
   simp only[M1,z3m]at h;obtain⟨n,j,rfl⟩:=h;have q:=QX r y;refine .inr ⟨y,?_⟩;generalize u:QP s.sl y=e at j q;cases e with
   | p c=>cases c with
     | int k m=>
       simp[Si]at j;subst j;exact⟨k,m,rfl,rfl,q.int⟩
     |_=>simp[Si]at j
   |_=>simp[Si]at j
def JT{isSlice:Bool}{len cap:Nat}{x u:Option Operand}{l h:Option Int}(g:(l=none/\x=none)\/∃y k n,x=some y/\l=some n/\a.eval y=.int k n)(f:(h=none/\u=none)\/∃y k n,u=some y/\h=some n/\a.eval y=.int k n){l' i:Nat}(r:l.getD 0=l')(q:h.getD len=i)(z:l'<=i)(b:i<=cap)(w':World):
  (Instr.sliceBounds isSlice len cap (x.map a.eval) (u.map a.eval) none).run P w'=.ok (l',i,cap) w':=by
 have key:∀(k:IntKind)(n:Int)(m y:Nat)(j:BoundsCode),n=m->m<=y->(Instr.sliceBound (.int k n) y j).run P w'=.ok m w':=fun k n m y j B A=>by
  subst B;simp[Instr.sliceBound,asIntOf,A]
 rcases g with⟨rfl,rfl⟩|⟨y,k,n,rfl,rfl,c⟩<;>rcases f with⟨rfl,rfl⟩|⟨C,d,e,rfl,rfl,p⟩<;>simp only[Option.getD_none,x9i]at r q
 .have:l'=0:=by omega
  have:len=i:=by omega
  subst_vars
  simp[Instr.sliceBounds]
 .have:l'=0:=by omega
  subst this;simp[Instr.sliceBounds,p,key d e i cap _ q b]
 .have:len=i:=by omega
  subst this;simp[Instr.sliceBounds,c,key k n l' len _ r z]
 .simp [Instr.sliceBounds,c,p,key d e i cap _ q b,key k n l' i _ r z]
def OQ(hT:TabOK P T){x:Operand}{lo r mx:Option Operand}(y:o.op=.slice t x lo r mx)(h:FM P T hr s o K)(J:∀i,RepL σ β (getS s.sl i) (a.tmps.getD i undef))(hH:HRel σ β s.H w):Snd P hr σ β a w o K:=by
 cases mx with
 |some m=>simp only[FM,y]at h;exact h.ok σ β a w J hH
 |none=>
 simp only[FM,y]at h;have C:=QX J x;split at h
 .rename_i _ _ _ l h' g el eh;have g:=hT.of g;have U:=HI J el;have Q:=HI J eh;split at h<;>first|exact h.elim|skip
  rename_i c Z;rw[Z]at C;obtain⟨M,hc⟩:=C.strV;obtain⟨l',q,D,E,F,A,G⟩:=h;refine .mk G (.p (.str _ (by simp;omega))) fun w' _ _=>?_;have B:=JT (P:=P) (isSlice:=false) (len:=c.length) (cap:=c.length) U Q D E F A w';have f:(⟨c.toArray⟩:ByteArray).size=c.length:=Xt c;simp only[execOp,y,Instr.sliceAt,Instr.slice,Sem.run_bind,run_underlying g,Result.andThen_ok,M,Option.map_none,Option.isSome_none,z3g,z3e,f,B,Sem.run_pure];congr 3;apply ByteArray.ext;simp[ByteArray.data_extract,List.drop_take]
 .rename_i e _ _ _ l h' g el eh;have g:=hT.of g;have U:=HI J el;have Q:=HI J eh;split at h
  .rename_i ie es R Z;rw[Z]at C;obtain⟨f,l',q,D,E,F,A,G⟩:=h;have n:=(hT _ _ R).sizeOf;generalize M:a.eval x=v at C;cases C with
   | p C=>cases C with
     | nilsl=>
       simp at A;have:l'=0:=by omega
       subst A this;refine .mk G (.p (by simpa using .nilsl)) fun w' _ _=>?_;have B:=JT (P:=P) (isSlice:=true) (len:=0) (cap:=0) U Q D E F (x9z _) w';simp[execOp,y,Instr.sliceAt,Instr.slice,run_underlying g,M,B,n]
     | slz b=>
       simp at A;have:l'=0:=by omega
       subst A this;refine .mk G (.p (by simpa using .slz b)) fun w' _ _=>?_;have B:=JT (P:=P) (isSlice:=true) (len:=0) (cap:=0) U Q D E F (x9z _) w';simp[execOp,y,Instr.sliceAt,Instr.slice,run_underlying g,M,B,n]
     | sl _ b off cap sz cells u B Y hmax L hc hrr=>
       have O:=JT (P:=P) (isSlice:=true) (len:=es.length) (cap:=cap) U Q D E F (x9r A Y);refine .mk (u:=.slice (some (if cap=l' then⟨b,off,none⟩else⟨b,off+l'*ie.size,none⟩)) (q-l') (cap-l')) G (.p ?_) fun w' _ _=>?_
       .have d:((es.take q).drop l').length=q-l':=by simp;omega
        by_cases z:cap=l'
        .have:(es.take q).drop l'=[]:=z0n (by rw[d];omega);rw[if_pos z,this];have:=Rep.sl (σ:=σ) [] b off (cap-l') 0 cells u B (by simp) (by omega) (by simp) (by simp) (by simp)
         rwa[show q-l'=([]:List AV).length by simp;omega]
        .rw [if_neg z,<-d];have get:∀(i:Nat)(e:AV),((es.take q).drop l')[i]?=some e->es[l'+i]?=some e:=fun i e r=>by
          rw[z0p,z0u]at r;split at r
          .exact r
          .cases r
         refine .sl _ b _ _ sz cells (fun i j=>u (l'+i) j) B (by rw[d];omega) (by omega) (fun i e r=>L _ _ (get i e r)) (fun i e j c r hj=>?_) fun i e j c r hj=>hrr _ _ _ _ (get i e r) hj;have h5:=hc _ _ _ _ (get i e r) hj;have h6:sz=ie.size:=by
          have h7:=L _ _ (get i e r);rw[<-h7];exact f e (x9x (get i e r))
         subst h6;rw[<-h5];congr 1;rw[z1u];omega
       .simp [execOp,y,Instr.sliceAt,Instr.slice,run_underlying g,M,O,n,KQ];split<;>rfl
  .rename_i ie k off len R Z;rw[Z]at C;split at h<;>first|exact h.elim|skip
   rename_i e' sz es hg;obtain⟨f,l',q,D,E,F,A,G⟩:=h;have n:=(hT _ _ R).sizeOf;generalize M:a.eval x=v at C;cases C with
   | hdn _ V=>
     simp at A;have:l'=0:=by omega
     subst A this;refine .mk G (by simpa using .hdn k V) fun w' _ _=>?_;have B:=JT (P:=P) (isSlice:=true) (len:=0) (cap:=0) U Q D E F (x9z _) w';simp[execOp,y,Instr.sliceAt,Instr.slice,run_underlying g,M,B,n]
   | hd _ _ _ i oo V hle I=>
     have O:=JT (P:=P) (isSlice:=true) (len:=len) (cap:=i.cap-off) U Q D E F (by omega);have hisz:i.sz=ie.size:=by
      rcases hH.chunks k _ (QH hg)with h0|⟨i',vs,r,hs',_⟩
      .rw [V]at h0;cases h0.1
      .rw [V]at r;cases r;rw[hs',f]
     refine .mk (u:=.slice (some (if i.cap-off=l' then⟨i.blk,oo,none⟩else⟨i.blk,oo+l'*ie.size,none⟩)) (q-l') (i.cap-off-l')) G ?_ fun w' _ _=>?_
     .rw [show i.cap-off-l'=i.cap-(off+l') by omega];by_cases z:i.cap-off=l'
      .rw [if_pos z];refine .hd k (off+l') (q-l') i oo V (by omega) ?_;by_cases h0:off+l'=0
       .have e1:off=0:=by omega
        have e2:l'=0:=by omega
        subst e1 e2;rcases I with I|I
        .exact .inl (by simpa using I)
        .omega
       .exact .inr ⟨by omega,by omega⟩
      .rw [if_neg z];refine .hd k (off+l') (q-l') i _ V (by omega) (.inl ?_);rcases I with I|I
       .rw [I,hisz,z1u]
       .omega
     .simp [execOp,y,Instr.sliceAt,Instr.slice,run_underlying g,M,O,n,KQ];split<;>rfl
  .exact h.ok σ β a w J hH
 .exact h.ok σ β a w J hH
def Pb(hT:TabOK P T){x i:Operand}(d:o.op=.indexAddr t x i)(h:FM P T hr s o K)(hs:∀i,RepL σ β (getS s.sl i) (a.tmps.getD i undef))(hH:HRel σ β s.H w):Snd P hr σ β a w o K:=by
 simp only[FM,d]at h;have q:=QX hs x;have C:=QX hs i;split at h<;>first|exact h.elim|skip
 .rename_i e _ _ _ ki n E Q;rw[Q]at C;have C:=C.int;have E:=hT.of E;split at h<;>first|exact h.elim|skip
  .rename_i V es r M;rw[M]at q;obtain⟨k,el,z,B,f,A⟩:=h;have l:=(hT _ _ r).sizeOf;generalize D:a.eval x=v at q;cases q with
   | p q=>cases q with
     |nilsl=>simp at B
     |slz b=>simp at B
     | sl _ b off cap sz cells u hb hcap hmax hsz' hc hrr=>
       have hlt:k<es.length:=(x8t.1 B).1;have h6:sz=V.size:=by rw[<-hsz' _ _ B,f]
       subst h6;refine .mk A (.p (.ip _ b (off+k*V.size) cells (u k) hb (fun j c hj=>hc _ _ _ _ B hj) fun j c hj=>hrr _ _ _ _ B hj)) fun w' _ _=>?_;simp[execOp,d,Instr.indexAt,C,asIntOf,run_underlying E,D,z,hlt,l,KQ]
  .rename_i V k off len r M;rw[M]at q;split at h<;>first|exact h.elim|skip
   rotate_left 1
   .rename_i e' e2 sz rows Z Y;obtain⟨f,m,J,y,A⟩:=h;have l:=(hT _ _ r).sizeOf;generalize D:a.eval x=v at q;cases q with
    |hdn _ z=>omega
    | hd _ _ _ F oo z R g=>
      have I:F.sz=1:=by
       rcases hH.chunks k _ (QH Y)with O|⟨i',vs,G,U,_⟩
       .rw [z]at O;cases O.1
       .rw [z]at G;cases G;exact U
      have L:oo=off:=by rcases g with g|g;rw[g,I,z4w];omega
      refine .mk A (.ptr k _ F z) fun w' _ _=>?_;simp[execOp,d,Instr.indexAt,C,asIntOf,run_underlying E,D,J,y,l,KQ,L,<-f]
   .rename_i e' cs Y;obtain⟨O,m,J,y,A⟩:=h;have l:=(hT _ _ r).sizeOf;generalize D:a.eval x=v at q;cases q with
    |hdn _ z=>omega
    | hd _ _ _ F oo z R g=>
      have L:oo=0:=by
       rcases g with g|g
       .rw [g,O,Nat.zero_mul]
       .omega
      refine .mk A (.ptr k _ F z) fun w' _ _=>?_;simp[execOp,d,Instr.indexAt,C,asIntOf,run_underlying E,D,J,y,l,KQ,L]
   rename_i e' sz es Y;obtain⟨f,m,J,y,A⟩:=h;have l:=(hT _ _ r).sizeOf;generalize D:a.eval x=v at q;cases q with
   |hdn _ z=>omega
   | hd _ _ _ F oo z R g=>
     have I:F.sz=sz:=by
      rcases hH.chunks k _ (QH Y)with O|⟨i',vs,G,U,_⟩
      .rw [z]at O;cases O.1
      .rw [z]at G;cases G;exact U
     have L:oo=off*sz:=by rcases g with g|g;rw[g,I];omega
     refine .mk A (.ptr k _ F z) fun w' _ _=>?_;simp[execOp,d,Instr.indexAt,C,asIntOf,run_underlying E,D,J,y,l,KQ,L,f,z1u]
  .rename_i V k ra len r M;rw[M]at q;split at h<;>first|exact h.elim|skip
   rename_i e' e2 sz rows Z Y;obtain⟨f,m,J,y,A⟩:=h;have l:=(hT _ _ r).sizeOf;generalize D:a.eval x=v at q;cases q with
   | ext _ _ F _ z hd=>
     rcases hd with⟨_,O,_⟩|⟨b,c,hb,R,rfl⟩
     .omega
     .refine .mk A (.ext k _ F _ z ⟨b,c,hb,rfl⟩) fun w' _ _=>?_;simp[execOp,d,Instr.indexAt,C,asIntOf,run_underlying E,D,J,y,l,KQ,f]
 .rename_i len e _ _ _ ki n E Q;rw[Q]at C;have C:=C.int;have E:=hT.of E;split at h<;>first|exact h.elim|skip
  .rename_i V cs r M;rw[M]at q;obtain⟨m,J,y,A⟩:=h;have l:=(hT _ _ r).sizeOf;cases q with
   | p q=>
     have hx0:=q;generalize D:a.eval x=v at q hx0;cases q with
     | ip _ b off cells u hb hc hrr=>
       refine .mk A (.p (hx0.ip_drop _)) fun w' _ _=>?_;simp[execOp,d,Instr.indexAt,C,asIntOf,run_underlying E,D,J,y,l,KQ,Instr.sureAddr]
  .rename_i V k off r M;rw[M]at q;obtain⟨m,J,y,A⟩:=h;have l:=(hT _ _ r).sizeOf;generalize D:a.eval x=v at q;cases q with
   | ptr _ _ F z=>
     refine .mk A (.ptr k _ F z) fun w' _ _=>?_;simp[execOp,d,Instr.indexAt,C,asIntOf,run_underlying E,D,J,y,l,KQ,Instr.sureAddr]
def Oo(hT:TabOK P T){x i:Operand}(q:o.op=.index t x i)(h:FM P T hr s o K)(M:∀i,RepL σ β (getS s.sl i) (a.tmps.getD i undef)):Snd P hr σ β a w o K:=by
 simp only[FM,q]at h;have g:=QX M x;have j:=QX M i;split at h<;>first|exact h.elim|skip
 .rename_i _ _ _ R n y l;rw[l]at j;have j:=j.int;have y:=hT.of y;split at h<;>first|exact h.elim|skip
  rename_i c D;rw[D]at g;obtain⟨H,L⟩:=g.strV;obtain⟨k,b,O,J,A⟩:=h;refine .mk A (.p (.int _ _)) fun w' _ _=>?_;have C:(ByteArray.mk c.toArray)[k]?=some b:=by
   have F:k<c.length:=(x8t.1 J).1;have z:k<(ByteArray.mk c.toArray).size:=by rw[Xt];exact F
   rw[getElem?_pos (ByteArray.mk c.toArray) k z];congr 1;have:c[k]=b:=(x8t.1 J).2;rw[<-this];rfl
  simp[execOp,q,Instr.index,j,asIntOf,run_underlying y,H,O,C]
 .rename_i len e _ _ _ R n y l;rw[l]at j;have j:=j.int;have y:=hT.of y;split at h<;>first|exact h.elim|skip
  rename_i U cs E D;rw[D]at g;obtain⟨vs,H,_,L⟩:=x2c g;obtain⟨m,Q,G,A⟩:=h;have I:=Be A;rw[List.map_drop]at I;obtain⟨c,u,⟨c',B,rfl⟩,d,f⟩:=Wz hT I L;have r:=(hT _ _ E).sizeOf;exact .mk B d fun w' _ _=>by simp[execOp,q,Instr.index,j,asIntOf,run_underlying y,H,Q,G,r,f]
def Rq{z:Fn}{first m:Array Operand}(q:o.op=.makeFunc z first m)(h:FM P T hr s o K)(y:∀i,RepL σ β (getS s.sl i) (a.tmps.getD i undef))(hH:HRel σ β s.H w):Snd P hr σ β a w o K:=by
 cases z with
 | func f=>
   simp only[FM,q]at h;split at h
   .rename_i l e d;have u:first=#[]:=by simpa using e
    subst u;have:=HZ d;have x:m.size=l.length:=by
     have:=z0o List.length this;simpa using this
    refine .mk h (.p (.fn f l (m.map a.eval) (fun j=>(m.map a.eval).getD j undef) (by simp[x]) (fun j c r=>?_) fun j c r=>?_)) fun w' _ _=>by
     simp[execOp,q,Instr.makeFunc]
    .have n:j<m.size:=by rw[x];exact(x8t.1 r).1
     simp[n]
    .have n:j<m.size:=by rw[x];exact(x8t.1 r).1
     have b:(m.toList.map (QP s.sl))[j]?=some (.p c):=by rw[this];simp[r]
     simp[n]at b⊢;have:=QX y m[j];rw[b]at this;cases this with
     |p h=>exact h
   .exact h.ok σ β a w y hH
 |_=>simp only[FM,q]at h;exact h.ok σ β a w y hH
def q9m(hT:TabOK P T){args:Array Operand}{argTypes:Array TypeId}(J:o.op=.call {callee:=.builtin .len,args,argTypes})(h:FM P T hr s o K)(E:∀i,RepL σ β (getS s.sl i) (a.tmps.getD i undef))(hH:HRel σ β s.H w):Snd P hr σ β a w o K:=by
 simp only[FM,J]at h;have j:∀{A B:Type}(f:A->B)(l:Array A)(b:B),l.toList.map f=[b]->∃x,l=#[x]/\f x=b:=fun f l b C=>by
  cases M:l.toList with
  |nil=>rw[M]at C;cases C
  | cons x r=>
    rw[M]at C;cases r with
    |nil=>exact⟨x,by apply ext';simpa using M,by simpa using C⟩
    |cons y r=>simp at C
 have done:∀(x:Operand)(t:TypeId),args=#[x]->argTypes=#[t]->∀(n:Nat)(w':World),(Builtin.len_ #[t] o.type #[a.eval x]).run P w'=.ok (.int .i64 n) w'->(execOp a.eval o).run P w'=.ok (.value (.int .i64 n)) w':=fun x t U V n w' C=>by
  subst U V;simp[execOp,J,resolve,invoke,builtin,C]
 split at h
 .rename_i c _ _ _ ha m;obtain⟨x,rfl,d⟩:=j _ _ _ ha;obtain⟨t,rfl,z⟩:=j _ _ _ m;have m:=hT.of z;have q:=QX E x;rw[d]at q;obtain⟨e,Q⟩:=q.strV;refine .mk (h Q) (.p (.int _ _)) fun w' _ _=>done x t rfl rfl _ w' ?_;simp[Builtin.len_,run_underlying m,e,goInt,Xt]
 .rename_i es _ _ _ _ ha m;obtain⟨x,rfl,d⟩:=j _ _ _ ha;obtain⟨t,rfl,z⟩:=j _ _ _ m;have m:=hT.of z;have q:=QX E x;rw[d]at q;generalize e:a.eval x=v at q;cases q with
  | p q=>cases q with
    | nilsl=>
      refine .mk (h (by simp)) (.p (.int _ _)) fun w' _ _=>done x t rfl rfl _ w' ?_;simp[Builtin.len_,run_underlying m,e,goInt]
    | slz b=>
      refine .mk (h (by simp)) (.p (.int _ _)) fun w' _ _=>done x t rfl rfl _ w' ?_;simp[Builtin.len_,run_underlying m,e,goInt]
    | sl _ b off cap sz cells u Y F g R Q hrr=>
      refine .mk (h (x9r F g)) (.p (.int _ _)) fun w' _ _=>done x t rfl rfl _ w' ?_;simp[Builtin.len_,run_underlying m,e,goInt]
 .rename_i _ _ _ _ ha m;obtain⟨x,rfl,d⟩:=j _ _ _ ha;obtain⟨t,rfl,z⟩:=j _ _ _ m;have m:=hT.of z;have q:=QX E x;rw[d]at q;generalize e:a.eval x=v at q;cases q with
  | p q=>cases q with
    | nils=>
      refine .mk h (.p (.int _ _)) fun w' _ _=>done x t rfl rfl 0 w' ?_;simp[Builtin.len_,run_underlying m,e,goInt]
 .rename_i k off len _ _ _ _ ha m;obtain⟨x,rfl,d⟩:=j _ _ _ ha;obtain⟨t,rfl,z⟩:=j _ _ _ m;have m:=hT.of z;have q:=QX E x;rw[d]at q;generalize e:a.eval x=v at q;split at h<;>first|exact h.elim|skip
  rotate_left 1
  .cases q with
   | hdn _ D=>
     refine .mk h (.p (.int _ _)) fun w' _ _=>done x t rfl rfl _ w' ?_;simp[Builtin.len_,run_underlying m,e,goInt]
   | hd _ _ _ L oo D I ho=>
     refine .mk h (.p (.int _ _)) fun w' _ _=>done x t rfl rfl _ w' ?_;simp[Builtin.len_,run_underlying m,e,goInt]
  rename_i e' sz es Z;cases q with
  | hdn _ D=>
    refine .mk (h (by simp)) (.p (.int _ _)) fun w' _ _=>done x t rfl rfl _ w' ?_;simp[Builtin.len_,run_underlying m,e,goInt]
  | hd _ _ _ L oo D I ho=>
    have g:L.cap<=maxLen:=by
     rcases hH.chunks k _ (QH Z)with O|⟨i',vs,G,_,_,_,_,hm,_⟩
     .rw [D]at O;cases O.1
     .rw [D]at G;cases G;exact hm
    refine .mk (h (by omega)) (.p (.int _ _)) fun w' _ _=>done x t rfl rfl _ w' ?_;simp[Builtin.len_,run_underlying m,e,goInt]
 .rename_i k ra len _ _ _ _ ha m;obtain⟨x,rfl,d⟩:=j _ _ _ ha;obtain⟨t,rfl,z⟩:=j _ _ _ m;have m:=hT.of z;have q:=QX E x;rw[d]at q;generalize e:a.eval x=v at q;cases q with
  | ext _ _ L _ D hd=>
    rcases hd with⟨_,rfl,rfl⟩|⟨b,c,Y,I,rfl⟩
    .refine .mk h (.p (.int _ _)) fun w' _ _=>done x t rfl rfl 0 w' ?_;simp[Builtin.len_,run_underlying m,e,goInt]
    .refine .mk h (.p (.int _ _)) fun w' _ _=>done x t rfl rfl _ w' ?_;simp[Builtin.len_,run_underlying m,e,goInt]
 .exact h.ok σ β a w E hH
end
section
variable {P:Program}{T:Tab}{hr:Bool}{σ:Mem}{β:Lab}{a:Act}{w:World}{o:Oper}{K:LV->Prop}{s:St}
def RepC(σ:Mem)(β:Lab)(ls:List LV)(vs:List Value):Prop:=
 vs.length=ls.length/\∀(j:Nat)(l:LV),ls[j]?=some l->∃u:Value,vs[j]?=some u/\RepL σ β l u
theorem RepC.append{u x:List LV}{y:List Value}(q:RepC σ β u v1)(r:RepC σ β x y):RepC σ β (u++x) (v1++y):=by
 refine⟨by simp[q.1,r.1],fun j l m=>?_⟩;rw[z2d]at m⊢;rw[q.1];split at m
 .rename_i i;simp only[i,if_true];exact q.2 j l m
 .rename_i i;simp only[i,z3e];exact r.2 _ l m
theorem RepC.take{r:List LV}(q:RepC σ β r v1)(n:Nat):RepC σ β (r.take n) (v1.take n):=by
 refine⟨by simp[q.1],fun j l i=>?_⟩;rw[z0u]at i⊢;split at i
 .rename_i m;simp only[m,if_true];exact q.2 j l i
 .cases i
theorem RepC.drop{q:List LV}(i:RepC σ β q v1)(n:Nat):RepC σ β (q.drop n) (v1.drop n):=by
 refine⟨by simp[i.1],fun j l m=>?_⟩;rw[z0p]at m⊢;exact i.2 _ l m
theorem RepC.mkAgg{ls:List LV}{vs:List Value}(h:RepC σ β ls vs):RepL σ β (mkAgg ls) (.agg vs.toArray):=by
 have i:∀(j:Nat),∃u:Value,∀(l:LV),ls[j]?=some l->vs[j]?=some u/\RepL σ β l u:=fun j=>by
  cases m:ls[j]?with
  |none=>exact⟨undef,fun l h=>by cases h⟩
  |some l=>obtain⟨u,r,x⟩:=h.2 j l m;exact⟨u,fun l' h=>by cases h;exact⟨r,x⟩⟩
 obtain⟨u,q⟩ : ∃u:Nat->Value,∀(j:Nat)(l:LV),ls[j]?=some l->vs[j]?=some (u j)/\RepL σ β l (u j):=⟨fun j=>(i j).choose,fun j=>(i j).choose_spec⟩;exact RepL.mkAgg u (by simpa using h.1) (fun j l m=>by simpa using(q j l m).1) fun j l m=>(q j l m).2
def PU{l:LV}(h:RepL σ β l v){ls:List LV}(i:VQ l=some ls):RepC σ β ls v.cells.toList:=by
 have one:∀{l:LV},RepL σ β l v->l.one=true->RepC σ β [l] v.cells.toList:=fun {l} h u=>by
  have n:=h.oneCell u;have:v.cells=#[v]:=by cases v<;>first|rfl|simp[Value.oneCell']at n
  rw[this];refine⟨rfl,fun j l' m=>?_⟩;cases j with
  |zero=>simp at m;subst m;exact⟨v,rfl,h⟩
  |succ j=>simp at m
 cases l with
 | p c=>
   cases c with
   | agg cs=>
     simp only[VQ,z2f]at i;subst i;obtain⟨vs,rfl,r,n⟩:=x2c h;exact⟨by simpa[Value.cells]using r,fun j l m=>by simpa[Value.cells]using n j l m⟩
   |any=>simp[VQ,LV.one,AV.one]at i
   |und=>simp[VQ,LV.one,AV.one]at i
   | raw x=>
     cases x with
     |pointer q=>simp[VQ,LV.one,AV.one]at i;subst i;exact one h rfl
     |_=>simp[VQ,LV.one,AV.one]at i
   |tup _=>simp[VQ,LV.one,AV.one]at i
   |_=>simp[VQ,LV.one,AV.one]at i;subst i;exact one h rfl
 | agg cs=>
   simp only[VQ,z2f]at i;subst i;obtain⟨vs,rfl,r,n⟩:=x6p h;exact⟨by simpa[Value.cells]using r,fun j l m=>by simpa[Value.cells]using n j l m⟩
 |tup _=>simp[VQ,LV.one]at i
 |ptr _ _=>simp[VQ,LV.one]at i;subst i;exact one h rfl
 |hd _ _ _=>simp[VQ,LV.one]at i;subst i;exact one h rfl
 |ext _ _=>simp[VQ,LV.one]at i;subst i;exact one h rfl
def x0h(vs:List Value):∀(k:Nat)(off:Nat)(cells:Array Value),off+k+vs.length<=cells.size->
  ((vs.zipIdx k).foldl (fun cs (x:Value×Nat)=>cs.setIfInBounds (off+x.2) x.1) cells).toList=cells.toList.take (off+k)++vs++cells.toList.drop (off+k+vs.length):=by
 induction vs with
 |nil=>intro k off cells h;simp
 | cons v r i=>
   intro k off cells h;simp only[List.zipIdx_cons,z1n];rw[i (k+1) off _ (by simp at h⊢;omega)];have:=list_seg_step cells.toList (off+k) v r (by simpa[z2r,z5v,Nat.add_left_comm]using h);simpa[Array.toList_setIfInBounds,z2r]using this
theorem Um{place placeL:Nat->Option (Nat×Nat)}(f:∀i x,placeL i=some x->place i=some x):∀(ps:List (Nat×LV))(qs:List (Nat×Value))(ls:List LV)(vs:Array Value)(out:List LV),
  ps.map (·.1)=qs.map (·.1)->(∀(j:Nat)(x:Nat×LV)(y:Nat×Value),ps[j]?=some x->qs[j]?=some y->RepL σ β x.2 y.2)->RepC σ β ls vs.toList->CE placeL ls ps=some out->
  ∃cs,Instr.fill place vs qs=some cs/\RepC σ β out cs.toList
 | [],[],ls,vs,out,_,_,hr,h=>by
   simp only[CE,z2f]at h;subst h;exact⟨vs,rfl,hr⟩
 |[],_::_,_,_,_,h,_,_,_=>by simp at h
 |_::_,[],_,_,_,h,_,_,_=>by simp at h
 | (i,l)::ps,(i',v)::qs,ls,vs,out,z,hrep,hr,h=>by
   simp only[x9f,List.cons.injEq]at z;obtain⟨rfl,z⟩:=z;simp only[CE]at h;split at h
   .cases h
   rename_i off size d;split at h
   .cases h
   rename_i E e;have A:=hrep 0 (i,l) (i,v) rfl rfl;have m:=PU A e;cases u:(E.length==size&&ble (off+size) ls.length)with
   |false=>simp[u]at h
   | true=>
     simp only[u,x9y]at h;simp only[x9w,z2k,z4c]at u;obtain⟨b,g⟩:=u;have q:v.cells.size=size:=by rw[<-b,<-m.1];simp
     have n:off+v.cells.size<=vs.size:=by
      have:=hr.1;simp at this;omega
     have D:=x0h v.cells.toList 0 off vs (by simpa using n);have r:v.cells.zipIdx.foldl (fun cs (x:Value×Nat)=>cs.setIfInBounds (off+x.2) x.1) vs=(v.cells.toList.zipIdx 0).foldl (fun cs (x:Value×Nat)=>cs.setIfInBounds (off+x.2) x.1) vs:=by
      rw[<-Array.foldl_toList];simp
     obtain⟨cs,c,p⟩:=Um f ps qs _ (v.cells.zipIdx.foldl (fun cs (x:Value×Nat)=>cs.setIfInBounds (off+x.2) x.1) vs) out z (fun j x y B C=>hrep (j+1) x y (by simpa using B) (by simpa using C)) (by
      rw[r,D];have:v.cells.toList.length=size:=by simpa using q
      simp only[z3q,this];exact((hr.take off).append m).append (hr.drop (off+size))) h
     refine⟨cs,?_,p⟩;simp only[Instr.fill,f i _ d];rw[if_neg]
     .exact c
     .simp [q];have:=hr.1;simp at this;omega
def Am(hT:TabOK P T)(fs:Array Field)(w':World)(h:∀f∈fs,∃i,T.get f.type=some i):
  ((fs.mapM fun f=>do pure (f.offset,<-sizeOf f.type):Sem (Array (Nat×Nat))).run P w')=.ok (fs.map fun f=>(f.offset,((T.get f.type).map (·.size)).getD 0)) w':=by
 have key:∀(l:List Field),(∀f∈l,∃i,T.get f.type=some i)->
   ((l.mapM fun f=>do pure (f.offset,<-sizeOf f.type):Sem (List (Nat×Nat))).run P w')=.ok (l.map fun f=>(f.offset,((T.get f.type).map (·.size)).getD 0)) w':=by
  intro l;induction l with
  |nil=>intro _;rfl
  | cons f r p=>
    intro n;obtain⟨i,m⟩:=n f (by simp);have:=(hT _ _ m).sizeOf w';simp only[List.mapM_cons,Sem.run_bind,this,Result.andThen_ok,Sem.run_pure,p fun f j=>n f (by simp[j]),x9f,m,z1a,x9i]
 rw[Array.mapM_eq_mapM_toList];simp only[Sem.run_map];rw[key fs.toList fun f j=>h f (by simpa using j)];simp only[Result.andThen_ok];congr 1;apply ext';simp
def Oe(hT:TabOK P T){parts:Array (Nat×Operand)}(A:o.op=.build t parts)(h:FM P T hr s o K)(Y:∀i,RepL σ β (getS s.sl i) (a.tmps.getD i undef)):Snd P hr σ β a w o K:=by
 simp only[FM,A]at h;split at h<;>first|exact h.elim|skip
 rename_i i R;split at h<;>first|exact h.elim|skip
 rename_i z Z;obtain⟨u,h⟩:=h;split at h<;>first|exact h.elim|skip
 rename_i cs D;have L:=x2c (β:=β) (.p (Z▸Rep.ofV σ i.zero));obtain⟨vs,O,V,Q⟩:=L;have G:RepC σ β (z.map .p) vs.toList:=⟨by simpa using V,fun j l U=>by simpa using Q j l U⟩;have d:∀(j:Nat)(x:Nat×LV)(y:Nat×Value),(parts.toList.map fun x=>(x.1,QP s.sl x.2))[j]?=some x->(parts.toList.map fun x=>(x.1,a.eval x.2))[j]?=some y->RepL σ β x.2 y.2:=fun j x y r F=>by
  rw[x8n]at r F;cases M:parts.toList[j]?with
  |none=>rw[M]at r;cases r
  |some q=>rw[M]at r F;cases r;cases F;exact QX Y _
 have c:=hT _ _ R;cases g:i.desc with
 | struct fs=>
   have C:∀f∈fs,∃i,T.get f.type=some i:=fun f I=>by
    simp only[g,Un,z0k]at u;exact Option.isSome_iff_exists.1 (u f (by simpa using I))
   obtain⟨out,b,B⟩:=Um (σ:=σ) (β:=β) (place:=((fs.map fun f=>(f.offset,((T.get f.type).map (·.size)).getD 0))[·]?)) (placeL:=Kg T i.desc) (fun j x r=>by
    simp only[Kg,g]at r;split at r
    .rename_i f I;simp only[z3m]at r;obtain⟨y,F,rfl⟩:=r;simp[I,F]
    .cases r) _ (parts.toList.map fun x=>(x.1,a.eval x.2)) _ vs cs (by simp) d G D
   refine .mk h B.mkAgg fun w' _ _=>?_;have J:=Am (P:=P) (T:=T) hT fs w' C;have m:Instr.fill ((fs.map fun f=>(f.offset,((T.get f.type).map (·.size)).getD 0))[·]?) vs ((parts.map fun(i,x)=>(i,a.eval x)).toList)=some out:=by
    rw[<-b];congr 1;simp
   simp only[execOp,A,Instr.build,Sem.run_bind,c.zeroValue,Result.andThen_ok,c.runUnder,g,J,O,Value.cells,m,Sem.run_pure]
 | array n e=>
   simp only[g,Un]at u;obtain⟨H,E⟩:=Option.isSome_iff_exists.1 u;obtain⟨out,b,B⟩:=Um (σ:=σ) (β:=β) (place:=fun i=>some (i*H.size,H.size)) (placeL:=Kg T i.desc) (fun j x r=>by
    simp only[Kg,g,E,z1a]at r;exact r) _ (parts.toList.map fun x=>(x.1,a.eval x.2)) _ vs cs (by simp) d G D
   refine .mk h B.mkAgg fun w' _ _=>?_;have m:Instr.fill (fun i=>some (i*H.size,H.size)) vs ((parts.map fun(i,x)=>(i,a.eval x)).toList)=some out:=by
    rw[<-b];congr 1;simp
   simp only[execOp,A,Instr.build,Sem.run_bind,c.zeroValue,Result.andThen_ok,c.runUnder,g,(hT _ _ E).sizeOf,O,Value.cells,m,Sem.run_pure]
 |_=>simp[g,Un]at u
def PC(hT:TabOK P T)(h:FM P T hr s o K)(n:∀i,RepL σ β (getS s.sl i) (a.tmps.getD i undef))(hH:HRel σ β s.H w):Snd P hr σ β a w o K:=by
 have gen:ValO P hr s o K->Snd P hr σ β a w o K:=fun h=>h.ok σ β a w n hH;cases j:o.op with
 |move x=>simp only[FM,j]at h;exact C9 (.inl j) h n
 |assign x=>simp only[FM,j]at h;exact C9 (.inr j) h n
 |pick c x y=>exact q4o j h n
 |fieldAddr t x f=>exact Pd hT j h n
 |load t x=>exact q4i hT j h n hH
 |nilCheck x=>exact Rx j h n hH
 |binOp op t x y u=>exact Oa hT j h n hH
 |unOp op t x=>exact q5q j h n hH
 |convert s d x=>exact TQ hT j h n hH
 |slice t x l q m=>exact OQ hT j h n hH
 |field t x f=>exact Oi hT j h n
 |indexAddr t x i=>exact Pb hT j h n hH
 |index t x i=>exact Oo hT j h n
 |extract x i=>exact TX j h n
 |build t r=>exact Oe hT j h n
 |makeFunc p f c=>exact Rq j h n hH
 | call c=>
   obtain⟨callee,args,argTypes⟩:=c;cases callee with
   | builtin b=>
     cases b with
     |len=>exact q9m hT j h n hH
     |_=>simp only[FM,j]at h;exact gen h
   |_=>simp only[FM,j]at h;exact gen h
 |_=>simp only[FM,j]at h;exact gen h
end
def Zq:List (Nat×LV)->Nat->LV->List (Nat×LV)
 |[],i,v=>[(i,v)]
 |(j,x)::r,i,v=>bif i==j then(i,v)::r else bif blt i j then(i,v)::(j,x)::r else(j,x)::Zq r i v
def q9v:List (Nat×LV)->Nat->LV->(List (Nat×LV)->Prop)->Prop
 |[],i,v,K=>K [(i,v)]
 |(j,x)::r,i,v,K=>bif i==j then K ((i,v)::r)else bif blt i j then K ((i,v)::(j,x)::r)else q9v r i v fun h=>K ((j,x)::h)
theorem LJ:∀(sl:List (Nat×LV))(i:Nat)(v:LV)(K:List (Nat×LV)->Prop),q9v sl i v K=K (Zq sl i v)
 |[],_,_,_=>rfl
 | (j,x)::r,i,v,K=>by
   simp only[q9v,Zq];cases i==j with
   |true=>rfl
   | false=>
     cases blt i j with
     |true=>rfl
     |false=>simp only[x9p,LJ r]
def Zt{α:Type}(i j:Nat)(x y:α):(bif i==j then x else y)=if i=j then x else y:=by
 by_cases h:i=j
 .simp [h]
 .have:(i==j)=false:=by simp[h]
  simp[this,h]
theorem PF:∀(sl:List (Nat×LV))(i:Nat)(v:LV)(j:Nat),getS (Zq sl i v) j=if i=j then v else getS sl j
 | [],i,v,j=>by
   simp only[Zq,getS];rw[Zt]
 | (k,x)::r,i,v,j=>by
   simp only[Zq];by_cases l:i=k
   .subst l;simp only[z2e,x9y,getS,Zt];by_cases h:i=j<;>simp[h]
   .have:(i==k)=false:=by simp[l]
    simp only[this,x9p];by_cases m:i<k
    .have:blt i k=true:=by simp[blt,Nat.succ_le_of_lt m]
     simp only[this,x9y,getS,Zt]
    .have:blt i k=false:=by
      cases n:blt i k with
      |false=>rfl
      |true=>simp[blt]at n;omega
     simp only[this,x9p,getS,PF r,Zt];by_cases h:k=j
     .subst h;simp[l]
     .simp [h]
def Ol{σ:Mem}{β:Lab}{sl:List (Nat×LV)}{a:Act}(h:∀i,RepL σ β (getS sl i) (a.tmps.getD i undef)){d:Nat}(l:d<a.tmps.size){v:LV}{u:Value}(m:RepL σ β v u):
  ∀i,RepL σ β (getS (Zq sl d v) i) ((a.put (some d) u).tmps.getD i undef):=fun i=>by
 rw[PF];by_cases j:d=i
 .subst j;simp[Act.put,l];exact m
 .rw [if_neg j];have:=h i;simpa[Act.put,z2u j]using this
def ZS(k:Nat)(s:St):Bool:=blt k 1000&&((s.H.all fun x=> !(x.1==k)&&x.2.free k)&&s.sl.all fun x=>x.2.free k)
def YO{s:St}(h:ZS k s=true):k<1000:=by
 simp only[ZS,x9w]at h;simpa[blt,Nat.lt_iff_add_one_le]using h.1
def XM{s:St}(h:ZS k s=true):(∀j c,(j,c)∈s.H->j≠k/\c.free k=true)/\∀i,(getS s.sl i).free k=true:=by
 simp only[ZS,x9w,z0k]at h;replace h:=h.2;refine⟨fun j c m=>?_,fun i=>?_⟩
 .have:=h.1 (j,c) m;simp at this;exact this
 .have:∀(sl:List (Nat×LV)),(∀x∈sl,x.2.free k=true)->(getS sl i).free k=true:=by
   intro sl;induction sl with
   |nil=>intro _;rfl
   | cons x r p=>
     intro l;obtain⟨j,v⟩:=x;simp only[getS];cases j==i with
     |true=>exact l (j,v) (by simp)
     |false=>exact p fun y n=>l y (by simp[n])
  exact this s.sl h.2
def Hu{s:St}(h:∀j c,(j,c)∈s.H->j≠k/\c.free k=true):k∉s.H.map (·.1):=by
 intro i;obtain⟨x,l,rfl⟩:=x8s.1 i;exact(h x.1 x.2 l).1 rfl
def q2p{σ:Mem}{β:Lab}{H:Heap}{w:World}(h:HRel σ β H w)(f:k<1000)(O:∀j c,(j,c)∈H->j≠k/\c.free k=true){i:BInfo}(Z:i.blk=w.heap.size)(E:i.subs=[]){o:Obj}{c:Chunk}(U:c.holds σ (β.set k (some i)) (w.alloc o) k):HRel σ (β.set k (some i)) ((k,c)::H) (w.alloc o)/\Later σ β H w σ (β.set k (some i)) ((k,c)::H) (w.alloc o):=by
 have C:k∉H.map (·.1):=fun I=>by
  obtain⟨x,Y,rfl⟩:=x8s.1 I;exact(O x.1 x.2 Y).1 rfl
 have n:∀j∈H.map (·.1),(β.set k (some i)) j=β j:=fun j l=>by
  have:j≠k:=fun e=>C (e▸l);simp[Lab.set,this]
 have D:∀j,1000<=j->j<2000->(β.set k (some i)) j=β j:=fun j M y=>by
  have:j≠k:=by omega
  simp[Lab.set,this]
 have u:∀b,b<w.heap.size->(w.alloc o).heap[b]?=w.heap[b]?:=fun b p=>heap_alloc_old w o b p;have J:(w.alloc o).heap.size=w.heap.size+1:=by
  show(w.heap.push o).size=_;simp
 have r:∀b,i.has b->b=w.heap.size:=fun b p=>by
  rcases p with p|⟨c,p⟩
  .omega
  .rw [E]at p;cases p
 refine⟨⟨fun b c p=>?_,fun j c' l=>?_,?_,fun j l i' m b p=>?_,fun j l G q Q R y g b z d=>?_⟩,Mem.le_refl σ,⟨rfl,rfl,rfl,x9z _,by omega,fun b p _=>u b p⟩,fun b M y=>absurd M y,fun b p=>?_,D⟩
 .obtain ⟨e,L,F⟩:=h.mem b c p;have f:b<w.heap.size:=(x9k.1 F).1;exact⟨e,L,(u b f).trans F⟩
 .rcases x8r.1 l with l|l
  .cases l;exact U
  .have B:=O j c' l;refine(((h.chunks j c' l).mono (Mem.le_refl σ) (w':=w.alloc o) fun i' m b p=>?_)).set _ B.1 B.2;exact u _ (h.apart j (x8s.2 ⟨_,l,rfl⟩) i' m b p).2
 .simp only[x9f,z0h];exact⟨C,h.nodup⟩
 .simp only[x9f,x8r]at l;rcases l with rfl|l
  .simp [Lab.set]at m;subst m;have p:=r b p;refine⟨?_,by omega⟩;cases V:σ b with
   |none=>rfl
   | some c=>
     obtain⟨e,L,F⟩:=h.mem _ c V;have f:=(x9k.1 F).1;omega
  .rw [n j l]at m;have:=h.apart j l i' m b p;exact⟨this.1,by omega⟩
 .simp only[x9f,x8r]at l q;rcases l with rfl|l<;>rcases q with rfl|q
  .rfl
  .simp [Lab.set]at y;rw[n G q]at g;have:=(h.apart G q R g b d).2;subst y;have:=r b z;omega
  .simp [Lab.set]at g;rw[n j l]at y;have:=(h.apart j l Q y b z).2;subst g;have:=r b d;omega
  .rw [n j l]at y;rw[n G q]at g;exact h.inj j l G q Q R y g b z d
 .obtain ⟨j,l,i',m,A⟩:=p;simp only[x9f,x8r]at l;rcases l with rfl|l
  .simp [Lab.set]at m;subst m;have:=r b A;exact .inr (by omega)
  .rw [n j l]at m;exact .inl ⟨j,l,i',m,A⟩
theorem Rel.new{N:Nat}{σ:Mem}{β:Lab}{s:St}{a:Act}{w:World}(h:Rel N σ β s a w)(m:ZS k s=true){i:BInfo}(z:i.blk=w.heap.size)(l:i.subs=[]){o:Obj}{c:Chunk}(y:c.holds σ (β.set k (some i)) (w.alloc o) k):Rel N σ (β.set k (some i)) ⟨s.sl,(k,c)::s.H⟩ a (w.alloc o)/\Later σ β s.H w σ (β.set k (some i)) ((k,c)::s.H) (w.alloc o):=by
 obtain⟨q,r⟩:=XM m;obtain⟨u,x⟩:=q2p h.heap (YO m) q z l y;exact⟨⟨h.size,h.defers,fun j=>(h.E j).set _ (r j),u⟩,x⟩
theorem Rel.put{N:Nat}{σ:Mem}{β:Lab}{s:St}{a:Act}{w:World}(h:Rel N σ β s a w){d:Nat}(i:d<N){v:LV}{u:Value}(j:RepL σ β v u):
  Rel N σ β ⟨Zq s.sl d v,s.H⟩ (a.put (some d) u) w:=
 ⟨by simp[Act.put,h.size],h.defers,Ol h.E (by rw[h.size];exact i) j,h.heap⟩
def q2n{σ:Mem}{β:Lab}{H:Heap}{w:World}(h:HRel σ β H w){i:BInfo}(f:k∈H.map (·.1))(z:β k=some i){vs:Array Value}{H':Heap}(hH:H'.map (·.1)=H.map (·.1))(u:∀j c,(j,c)∈H'->j≠k->(j,c)∈H)(r:∀c,(k,c)∈H'->c.holds σ β (w.setRow i.blk vs) k):
  HRel σ β H' (w.setRow i.blk vs)/\Later σ β H w σ β H' (w.setRow i.blk vs):=by
 have x:=h.apart k f i z i.blk i.has_blk;have q:∀b,b≠i.blk->(w.setRow i.blk vs).heap[b]?=w.heap[b]?:=fun b l=>setRow_other w i.blk b vs l;refine⟨⟨fun b c l=>?_,fun j c n=>?_,by rw[hH];exact h.nodup,fun j n i' m b l=>?_,fun j n G d=>h.inj j (hH▸n) G (hH▸d)⟩,Mem.le_refl σ,⟨rfl,rfl,rfl,x9z _,by simp,fun b _ F=>q b fun e=>F ⟨k,f,i,z,.inl e.symm⟩⟩,fun b C D=>absurd C D,fun b l=>?_,fun _ _ _=>rfl⟩
 .have g:b≠i.blk:=fun e=>by rw[e,x.1]at l;cases l
  obtain⟨e,B,E⟩:=h.mem b c l;exact⟨e,B,(q b g).trans E⟩
 .by_cases p:j=k
  .subst p;exact r c n
  .have A:=u j c n p;refine(h.chunks j c A).mono (Mem.le_refl σ) fun i' m b l=>q _ fun e=>p ?_;exact h.inj j (x8s.2 ⟨_,A,rfl⟩) k f i' i m z b l (.inl e.symm)
 .have:=h.apart j (hH▸n) i' m b l;exact⟨this.1,by simpa using this.2⟩
 .obtain ⟨j,n,i',m,y⟩:=l;exact .inl ⟨j,hH▸n,i',m,y⟩
def Le(N:Nat)(s s':St):Prop:=∀σ β a w,Rel N σ β s a w->∃σ' β',Rel N σ' β' s' a w/\Later σ β s.H w σ' β' s'.H w
theorem Le.refl{N:Nat}(s:St):Le N s s:=fun σ β _ _ h=>⟨σ,β,h,Later.refl _ _ _ _⟩
theorem Le.of_eq{N:Nat}{s s':St}(h:s=s'):Le N s s':=h▸Le.refl s
theorem Le.trans{N:Nat}{s s' i:St}(h:Le N s s')(j:Le N s' i):Le N s i:=fun σ β a w hr=>
 let ⟨σ',β',h1,h2⟩:=h σ β a w hr;let ⟨σ'',β'',h3,h4⟩:=j σ' β' a w h1
 ⟨σ'',β'',h3,h2.trans h4⟩
def Np{N:Nat}{s s':St}(hsl:∀i,getS s'.sl i=getS s.sl i\/getS s'.sl i=.p .any)(hH:s'.H.Sublist s.H):Le N s s':=fun σ β a w h=>
 ⟨σ,β,⟨h.size,h.defers,fun i=>by
   rcases hsl i with e|e
   .rw [e];exact h.E i
   .rw [e];exact .p (.any _),⟨h.heap.mem,fun k c q=>h.heap.chunks k c (hH.subset q),(hH.map _).nodup h.heap.nodup,
    fun k j=>h.heap.apart k ((hH.map _).subset j),fun k j u l=>h.heap.inj k ((hH.map _).subset j) u ((hH.map _).subset l)⟩⟩,
  Mem.le_refl σ,Frm.refl _ _,fun _ m n=>absurd m n,fun b ⟨k,j,r⟩=>.inl ⟨k,(hH.map _).subset j,r⟩,fun _ _ _=>rfl⟩
theorem RepL.hdI{σ:Mem}{β:Lab}{off len:Nat}(h:RepL σ β (.hd k off len) v):
  (β k=none/\off=0/\len=0/\v=.slice none 0 0)\/
  ∃i o,β k=some i/\off+len<=i.cap/\(o=off*i.sz\/(i.cap=off/\0<off))/\v=.slice (some ⟨i.blk,o,none⟩) len (i.cap-off):=by
 cases h with
 |hdn _ j=>exact .inl ⟨j,rfl,rfl,rfl⟩
 |hd _ _ _ i o j l m=>exact .inr ⟨i,o,j,l,m,rfl⟩
structure RepE(σ:Mem)(sz:Nat)(es:List AV)(vs:List Value):Prop where
 len:vs.length=es.length*sz
 size:∀(i:Nat)(e:AV),es[i]?=some e->e.cells.length=sz
 rep:∀(i:Nat)(e:AV)(j:Nat)(c:AV),es[i]?=some e->e.cells[j]?=some c->∃u:Value,vs[i*sz+j]?=some u/\Rep σ c u
def IK{i j n sz:Nat}(h:i<n)(l:j<sz):i*sz+j<n*sz:=by
 have:(i+1)*sz<=n*sz:=z0y _ h;rw[z1u]at this;omega
theorem RepE.nil(σ:Mem)(sz:Nat):RepE σ sz [] []:=⟨by simp,by simp,by simp⟩
theorem RepE.append{σ:Mem}{sz:Nat}{es xs:List AV}{y:List Value}(m:RepE σ sz es v1)(r:RepE σ sz xs y):RepE σ sz (es++xs) (v1++y):=by
 refine⟨by simp[m.len,r.len,z1u],fun i e l=>?_,fun i e j c l x=>?_⟩
 .rw [z2d]at l;split at l
  .exact m.size i e l
  .exact r.size _ e l
 .rw [z2d]at l;split at l
  .rename_i b;obtain⟨u,q,hr⟩:=m.rep i e j c l x;have:i*sz+j<v1.length:=(x8t.1 q).1;exact⟨u,by rw[z0f this];exact q,hr⟩
  .rename_i z;obtain⟨u,q,hr⟩:=r.rep _ e j c l x;refine⟨u,?_,hr⟩;have:v1.length<=i*sz+j:=by
    rw[m.len];have:es.length*sz<=i*sz:=z0y _ (by omega);omega
   rw[z0j this,m.len];rw[show i*sz+j-es.length*sz=(i-es.length)*sz+j by rw[Nat.sub_mul];have:es.length*sz<=i*sz:=z0y _ (by omega);omega];exact q
def WQ{σ:Mem}{β:Lab}{w:World}{e:TypeId}{sz:Nat}{es:List AV}:
  (Chunk.own e sz es).holds σ β w k↔(β k=none/\es=[])\/∃i vs,β k=some i/\i.sz=sz/\w.heap[i.blk]?=some (.cells vs e (0,0))/\
    vs.size=i.cap*sz/\es.length<=i.cap/\i.cap<=maxLen/\RepE σ sz es (vs.toList.take (es.length*sz)):=by
 constructor
 .rintro (h|⟨i,vs,y,z,b,p,q,d,f⟩)
  .exact .inl h
  .have B:es.length*sz<=vs.size:=by rw[p];exact z0y _ q
   refine .inr ⟨i,vs,y,z,b,p,q,d,by simp;omega,fun m x l=>(f m x l).1,fun m x j c l r=>?_⟩;obtain⟨u,n,hr⟩:=(f m x l).2 j c r;refine⟨u,?_,hr⟩;have C:m<es.length:=(x8t.1 l).1;have g:j<sz:=by rw[<-(f m x l).1];exact(x8t.1 r).1
   rw[z0u,if_pos (IK C g)];simpa using n
 .rintro (h|⟨i,vs,y,z,b,p,q,d,A⟩)
  .exact .inl h
  .refine .inr ⟨i,vs,y,z,b,p,q,d,fun m x l=>⟨A.size m x l,fun j c r=>?_⟩⟩;obtain⟨u,n,hr⟩:=A.rep m x j c l r;rw[z0u]at n;split at n
   .exact ⟨u,by simpa using n,hr⟩
   .cases n
def LV.kill(k:Nat)(l:LV):LV:=bif l.free k then l else .p .any
theorem LV.kill_free(k:Nat)(l:LV):(l.kill k).free k=true:=by
 unfold LV.kill;cases h:l.free k
 .rfl
 .exact h
theorem RepL.kill{σ:Mem}{β:Lab}{l:LV}{v:Value}(h:RepL σ β l v)(k:Nat):RepL σ β (l.kill k) v:=by
 unfold LV.kill;cases l.free k
 .exact .p (.any _)
 .exact h
def Chunk.kill(k:Nat):Chunk->Chunk
 |.obj e cs=>.obj e (cs.map (LV.kill k))
 |.own e sz es=>.own e sz es
 |.ext d=>.ext d
theorem Chunk.kill_free(k:Nat)(c:Chunk):(c.kill k).free k=true:=by
 cases c with
 | obj e cs=>
   simp only[Chunk.kill,Chunk.free];induction cs with
   |nil=>rfl
   |cons l r i=>simp only[x9f,LV.free.freeAll,LV.kill_free,z5h];exact i
 |own e sz es=>rfl
 |ext d=>rfl
theorem Chunk.holds.kill{σ:Mem}{β:Lab}{w:World}{j:Nat}{c:Chunk}(h:c.holds σ β w j)(k:Nat):(c.kill k).holds σ β w j:=by
 cases c with
 | obj e cs=>
   obtain⟨i,vs,b,z,f,y⟩:=h;refine⟨i,vs,b,z,by simpa using f,fun j l m=>?_⟩;rw[x8n]at m;cases q:cs[j]?with
   |none=>rw[q]at m;cases m
   | some l'=>
     rw[q]at m;cases m;obtain⟨u,r,x⟩:=y j l' q;exact⟨u,r,x.kill k⟩
 |own e sz es=>exact h
 |ext d=>exact h
def Mm{σ:Mem}{β:Lab}{H:Heap}{w w':World}(h:HRel σ β H w)(hpk:k<1000\/2000<=k)(F:k∈H.map (·.1))(g:Frm (fun b=>∃i,β k=some i/\i.has b) w w'){i':Option BInfo}(D:∀i,i'=some i->∀b,i.has b->b<w'.heap.size/\((∃f,β k=some f/\f.has b)\/w.heap.size<=b)){H':Heap}(hH:H'.map (·.1)=H.map (·.1))(O:∀j c,(j,c)∈H'->j≠k->c.free k=true/\c.holds σ β w j)(M:∀c,(k,c)∈H'->c.holds σ (β.set k i') w' k):
  HRel σ (β.set k i') H' w'/\Later σ β H w σ (β.set k i') H' w':=by
 have m:∀j,j≠k->(β.set k i') j=β j:=fun j q=>by simp[Lab.set,q]
 have n:(β.set k i') k=i':=by simp[Lab.set]
 have R:∀j,1000<=j->j<2000->(β.set k i') j=β j:=fun j h0 u=>m j (by omega);have hfr:∀b,σ b≠none->w'.heap[b]?=w.heap[b]?:=fun b p=>by
  cases V:σ b with
  |none=>exact absurd V p
  | some c=>
    obtain⟨e,Y,J⟩:=h.mem b c V;refine g.block b (x9k.1 J).1 ?_;rintro⟨i,x,hib⟩;exact p (h.apart k F i x b hib).1
 have Q:∀j∈H.map (·.1),j≠k->∀i,β j=some i->∀b,i.has b->w'.heap[b]?=w.heap[b]?:=fun j q E i x b p=>by
  refine g.block _ (h.apart j q i x b p).2 ?_;rintro⟨f,hi0,Z⟩;exact E (h.inj j q k F i f x hi0 b p Z)
 refine⟨⟨fun b c p=>?_,fun j c q=>?_,by rw[hH];exact h.nodup,fun j q i x b p=>?_,fun j q U L A C u y b z d=>?_⟩,Mem.le_refl σ,
  ⟨g.os,g.tape,g.output,g.drawn,g.size,fun b p hn=>g.block b p fun⟨i,x,Z⟩=>hn ⟨k,F,i,x,Z⟩⟩,fun b h0 u=>absurd h0 u,fun b p=>?_,R⟩
 .obtain ⟨e,Y,J⟩:=h.mem b c p;exact⟨e,Y,(hfr b (by simp[p])).trans J⟩
 .by_cases l:j=k
  .subst l;exact M c q
  .obtain ⟨u,y⟩:=O j c q l;have hjm:j∈H.map (·.1):=hH▸x8s.2 ⟨_,q,rfl⟩;exact(y.mono (Mem.le_refl σ) (Q j hjm l)).set _ l u
 .by_cases l:j=k
  .subst l;rw[n]at x;obtain⟨u,y⟩:=D i x b p;refine⟨?_,u⟩;rcases y with⟨f,B,I⟩|y
   .exact (h.apart _ F f B b I).1
   .cases V:σ b with
    |none=>rfl
    | some c=>
      obtain⟨e,Y,J⟩:=h.mem _ c V;have:=(x9k.1 J).1;omega
  .rw [m j l]at x;have:=h.apart j (hH▸q) i x b p;exact⟨this.1,z2b this.2 g.size⟩
 .have G:∀j∈H.map (·.1),j≠k->∀A C,β j=some A->i'=some C->∀b,A.has b->¬C.has b:=fun j q E A C u y b z d=>by
   obtain⟨_,B⟩:=D C y b d;rcases B with⟨f,I,h5⟩|B
   .exact E (h.inj j q k F A f u I b z h5)
   .have:=(h.apart j q A u b z).2;omega
  by_cases l:j=k<;>by_cases r:U=k
  .rw [l,r]
  .subst l;rw[n]at u;rw[m U r]at y;exact absurd z (G U (hH▸L) r C A y u b d)
  .subst r;rw[n]at y;rw[m j l]at u;exact absurd d (G j (hH▸q) l A C u y b z)
  .rw [m j l]at u;rw[m U r]at y;exact h.inj j (hH▸q) U (hH▸L) A C u y b z d
 .obtain ⟨j,q,i,x,p⟩:=p;by_cases l:j=k
  .subst l;rw[n]at x;rcases(D i x b p).2 with⟨f,B,I⟩|B
   .exact .inl ⟨j,F,f,B,I⟩
   .exact .inr B
  .rw [m j l]at x;exact .inl ⟨j,hH▸q,i,x,p⟩
def CB{P:Program}{σ:Mem}{β:Lab}{w:World}{e:TypeId}{n:TyI}{es xs:List AV}(t ty:TypeId)(Z:P.underlying t=some (.slice e))(hie:TyOK P e n)(hz:n.zero.cells.size=n.size)(L:(Chunk.own e n.size es).holds σ β w k)(hv:RepL σ β (.hd k 0 es.length) v){x:Value}{l:List Value}(hx:(x=.slice none 0 0/\l=[])\/∃Q c,x=.slice (some Q) xs.length c/\∀(j:Nat)(u:Value),l[j]?=some u->w.cell? (Q.add j)=some u)(m:RepE σ n.size xs l)(h1:∀u∈l,u.oneCell'=true)(h63:es.length+xs.length<=maxLen)(g:(es.length+xs.length)*n.bytes<=140737488355328)(hpos:0<n.size)(hlt:∀i,β k=some i->∀b,i.has b->b<w.heap.size):
  ∃O w' i',(Builtin.append_ #[t,t] ty #[v,x]).run P w=.ok O w'/\Frm (fun b=>∃i,β k=some i/\i.has b) w w'/\
   (∀i,i'=some i->∀b,i.has b->b<w'.heap.size/\((∃M,β k=some M/\M.has b)\/w.heap.size<=b))/\
   (Chunk.own e n.size (es++xs)).holds σ (β.set k i') w' k/\RepL σ (β.set k i') (.hd k 0 (es.length+xs.length)) O:=by
 obtain⟨Y,B,z,hfb,hfz⟩:=hie.getInfo;have F:∀i':Option BInfo,(β.set k i') k=i':=fun i'=>by simp[Lab.set]
 have J:(es.length+xs.length:Nat)<=(9223372036854775807:Int):=by simp only[maxLen]at h63;omega
 have stay:xs=[]->∃O w' i',(Result.ok v w:Result Value)=.ok O w'/\Frm (fun b=>∃i,β k=some i/\i.has b) w w'/\
   (∀i,i'=some i->∀b,i.has b->b<w'.heap.size/\((∃M,β k=some M/\M.has b)\/w.heap.size<=b))/\
   (Chunk.own e n.size (es++xs)).holds σ (β.set k i') w' k/\RepL σ (β.set k i') (.hd k 0 (es.length+xs.length)) O:=fun hx0=>by
  subst hx0;have f:β.set k (β k)=β:=by funext j;unfold Lab.set;split<;>simp_all
  refine⟨v,w,β k,rfl,Frm.refl _ _,fun i C b f=>⟨hlt i C b f,.inl ⟨i,C,f⟩⟩,?_,?_⟩
  .rw [f];simpa using L
  .rw [f];simpa using hv
 have D:∀(old:Nat)(p:List Value),RepE σ n.size es p->old<es.length+xs.length->
   Frm (fun b=>∃i,β k=some i/\i.has b) w (w.drew.alloc (.cells (p.toArray++l.toArray++Builtin.zeroCells n.zero.cells (grownCap w (es.length+xs.length) old e-(es.length+xs.length))) e))/\
   ∃i',(∀i,i'=some i->∀b,i.has b->b<(w.drew.alloc (.cells (p.toArray++l.toArray++Builtin.zeroCells n.zero.cells (grownCap w (es.length+xs.length) old e-(es.length+xs.length))) e)).heap.size/\((∃M,β k=some M/\M.has b)\/w.heap.size<=b))/\
   (Chunk.own e n.size (es++xs)).holds σ (β.set k i') (w.drew.alloc (.cells (p.toArray++l.toArray++Builtin.zeroCells n.zero.cells (grownCap w (es.length+xs.length) old e-(es.length+xs.length))) e)) k/\
   RepL σ (β.set k i') (.hd k 0 (es.length+xs.length)) (.slice (some ⟨w.heap.size,0,none⟩) (es.length+xs.length) (grownCap w (es.length+xs.length) old e)):=fun old p R ho=>by
  have V:=grownCap_ge w (es.length+xs.length) old e;have A:=grownCap_le_maxLen w (es.length+xs.length) old e h63;generalize grownCap w (es.length+xs.length) old e=cap at V A⊢;have hsz:(w.drew.alloc (.cells (p.toArray++l.toArray++Builtin.zeroCells n.zero.cells (cap-(es.length+xs.length))) e)).heap.size=w.heap.size+1:=by
   show(w.heap.push _).size=_;simp
  have y:=R.append m;have hnew:(w.drew.alloc (.cells (p.toArray++l.toArray++Builtin.zeroCells n.zero.cells (cap-(es.length+xs.length))) e)).heap[w.heap.size]?=some (.cells (p.toArray++l.toArray++Builtin.zeroCells n.zero.cells (cap-(es.length+xs.length))) e (0,0)):=heap_alloc_new w.drew _;refine⟨⟨rfl,rfl,rfl,Nat.le_succ _,by omega,fun b f _=>heap_alloc_old w.drew _ b f⟩,some ⟨w.heap.size,cap,n.size,[],A⟩,fun i C b f=>?_,WQ.2 (.inr ⟨⟨w.heap.size,cap,n.size,[],A⟩,_,F _,rfl,hnew,?_,by simpa using V,A,?_⟩),?_⟩
  .cases C;rw[LE]at f;exact⟨by omega,.inr (by omega)⟩
  .simp only[Array.size_append,z2l,size_zeroCells,hz,R.len,m.len];rw[<-z1u,<-z1u];congr 1;omega
  .rw [show(p.toArray++l.toArray++Builtin.zeroCells n.zero.cells (cap-(es.length+xs.length))).toList.take ((es++xs).length*n.size)=p++l by
    rw[<-y.len];simp only[Array.toList_append];exact List.take_left]
   exact y
  .have:=z5c (σ:=σ) (β:=β.set k (some ⟨w.heap.size,cap,n.size,[],A⟩)) k 0 (es.length+xs.length) ⟨w.heap.size,cap,n.size,[],A⟩ 0 (F _) (by simpa using V) (.inl (by simp));simpa using this
 rcases WQ.1 L with⟨hb0,rfl⟩|⟨i,vs,C,hisz,hh,hn,hlen,E,R⟩
 ·-- a nil row
  have hvn:v=.slice none 0 0:=by
   rcases hv.hdI with⟨_,_,_,h⟩|⟨i,_,I,_⟩
   .exact h
   .rw [hb0]at I;cases I
  subst hvn;rcases hx with⟨rfl,rfl⟩|⟨Q,c,rfl,q⟩
  .have G:xs=[]:=by
    have:=m.len;simp only[z3j]at this;rcases Nat.mul_eq_zero.1 this.symm with h|h
    .exact z0n h
    .omega
   obtain⟨O,w',i',U,d⟩:=stay G;cases U;exact⟨_,_,i',run_append_owned_none w 0 t ty e Y n.size Z B _ 0 [] (World.ownsRow_nil w 0 e n.size),d⟩
  .by_cases hm:xs.length=0
   .have G:xs=[]:=z0n hm;subst G;have hnn:l=[]:=z0n (by simpa using m.len);subst hnn;obtain⟨O,w',i',U,d⟩:=stay rfl;cases U;refine⟨_,_,i',?_,d⟩;simp[Builtin.append_,run_underlying Z,sizeOf,typeInfo,B,Builtin.lenOf,Builtin.firstCells,loadCells,loadCellsFrom]
   .have hr:=run_append_nil (P:=P) w t ty e Y n.zero Z B hfz Q xs.length c l (by rw[z];exact m.len) q (by omega) (by simp at J;omega) (by rw[hfb];simp at g;omega);obtain⟨h2,i',h3,h4,h5⟩:=D 0 [] (RepE.nil σ n.size) (by omega);simp only[z3j,z1h,Array.empty_append]at h2 h3 h4 h5⊢;exact⟨_,_,i',hr,h2,h3,h4,h5⟩
 .have hvs:∃cap,v=.slice (some ⟨i.blk,0,none⟩) es.length i.cap/\cap=i.cap:=by
   rcases hv.hdI with⟨I,_⟩|⟨i',o,I,hl,ho,h⟩
   .rw [C]at I;cases I
   .rw [C]at I;cases I;rcases ho with ho|ho
    .exact ⟨i.cap,by rw[h,ho];simp,rfl⟩
    .omega
  obtain⟨_,hv',_⟩:=hvs;subst hv';rcases hx with⟨rfl,rfl⟩|⟨Q,c,rfl,q⟩
  .have G:xs=[]:=by
    have:=m.len;simp only[z3j]at this;rcases Nat.mul_eq_zero.1 this.symm with h|h
    .exact z0n h
    .omega
   obtain⟨O,w',i',U,d⟩:=stay G;cases U;refine⟨_,_,i',run_append_owned_none w 0 t ty e Y n.size Z B _ es.length (vs.toList.take (es.length*n.size)) ⟨R.len,.inr ⟨i.blk,i.cap,vs,rfl,x8m _,hh,hlen,E,hn,rfl⟩⟩,d⟩
  .by_cases r:es.length+xs.length<=i.cap
   .have H:es.length*Y.size+l.length<=vs.size:=by rw[z,m.len,hn,<-z1u];exact z0y _ r
    have hr:=run_append_room (P:=P) w t ty e Y Z B i.blk es.length i.cap vs hh Q xs.length c l (by rw[z];exact m.len) q h1 r H;have f:β.set k (some i)=β:=by funext j;unfold Lab.set;split<;>simp_all
    refine⟨_,_,some i,hr,⟨rfl,rfl,rfl,x9z _,by simp,fun b _ hnb=>setRow_other w i.blk b _ fun U=>hnb ⟨i,C,.inl U.symm⟩⟩,fun i1 h1 b f=>?_,?_,?_⟩
    .cases h1;exact⟨by simpa using hlt i C b f,.inl ⟨i,C,f⟩⟩
    .rw [f];refine WQ.2 (.inr ⟨i,_,C,hisz,setRow_heap w i.blk vs _ e _ hh,?_,by simpa using r,E,?_⟩)
     .rw [z];simp only[z2l,x8d,x9n,z1k,z0a];rw[z]at H;omega
     .rw [z];have y:=R.append m;rw[show(vs.toList.take (es.length*n.size)++l++vs.toList.drop (es.length*n.size+l.length)).toArray.toList.take ((es++xs).length*n.size)=vs.toList.take (es.length*n.size)++l by
       rw[<-y.len];simp only[List.take_left]]
      exact y
    .rw [f];have:=z5c (σ:=σ) (β:=β) k 0 (es.length+xs.length) i 0 C (by simpa using r) (.inl (by simp));simpa using this
   .have holds:∀(j:Nat)(u:Value),(vs.toList.take (es.length*n.size))[j]?=some u->w.cell? ((⟨i.blk,0,none⟩:Addr).add j)=some u:=fun j u hu=>by
     rw[KQ];rw[z0u]at hu;split at hu
     .simp [World.cell?,hh];simpa using hu
     .cases hu
    have hr:=run_append_grow (P:=P) w t ty e Y n.zero Z B hfz ⟨i.blk,0,none⟩ es.length i.cap (vs.toList.take (es.length*n.size)) (by rw[z];exact R.len) holds Q xs.length c l (by rw[z];exact m.len) q (by omega) J (by rw[hfb];exact growslice_fits (by omega) g);obtain⟨h2,i',h3,h4,h5⟩:=D i.cap _ R (by omega);exact⟨_,_,i',hr,h2,h3,h4,h5⟩
structure OpK(P:Program)(N:Nat)(s:St)(o:Oper)(K:St->Prop):Prop where
 ok:∀(σ:Mem)(β:Lab)(a:Act)(w:World),Rel N σ β s a w->∀Q,o.wp P a w (fun a' w'=>∃σ' β' s',K s'/\Rel N σ' β' s' a' w'/\Later σ β s.H w σ' β' s'.H w') Q
structure CallK(P:Program)(N:Nat)(g:FuncId)(args:List LV)(dst:Option Nat)(s:St)(K:St->Prop):Prop where
 ok:∀(σ:Mem)(β:Lab)(a:Act)(w:World),Rel N σ β s a w->∀vals:Array Value,vals.size=args.length->(∀(j:Nat)(l:LV),args[j]?=some l->RepL σ β l (vals.getD j undef))->
  (∀w',(callFunc g vals).run P w'=.ok (.enter g vals) w')/\
  Calls P g vals w fun e w'=>∃u σ' β' s',e=.returned u/\K s'/\Rel N σ' β' s' (a.put dst u) w'/\Later σ β s.H w σ' β' s'.H w'
def KZ(l:LV)(K:LV->Prop):Prop:=
 match l with
 |.p a=>K (.p a)
 |.ptr k o=>K (.ptr k o)
 |.hd k o n=>K (.hd k o n)
 |.agg vs=>K (.agg vs)
 |.tup vs=>K (.tup vs)
 |.ext k d=>K (.ext k d)
def XP(l:LV)(K:LV->Prop):KZ l K=K l:=by cases l<;>rfl
def DI:List LV->(List LV->Prop)->Prop
 |[],K=>K []
 |l::r,K=>KZ l fun l=>DI r fun r=>K (l::r)
theorem VH:∀(l:List LV)(K:List LV->Prop),DI l K=K l
 |[],_=>rfl
 |l::r,K=>by simp only[DI,XP,VH r]
def FT:Nat->Nat->St->(Nat->Prop)->Prop
 |0,_,_,_=>False
 |f+1,k,s,K=>bif ZS k s then K k else FT f (k+1) s K
theorem YU:∀{f k:Nat}{s:St}{K:Nat->Prop},FT f k s K->∃j,ZS j s=true/\K j
 |0,_,_,_,h=>h.elim
 | f+1,k,s,K,h=>by
   simp only[FT]at h;cases i:ZS k s with
   |true=>rw[i]at h;exact⟨k,i,h⟩
   |false=>rw[i]at h;exact YU h
def setD(N:Nat)(sl:List (Nat×LV))(d:Option Nat)(v:LV)(K:List (Nat×LV)->Prop):Prop:=
 match d with
 |none=>K sl
 |some d=>bif blt d N then q9v sl d v K else False
def On{N:Nat}{sl:List (Nat×LV)}{d:Option Nat}{v:LV}{K:List (Nat×LV)->Prop}(h:setD N sl d v K):
  (d=none/\K sl)\/∃i,d=some i/\i<N/\K (Zq sl i v):=by
 cases d with
 |none=>exact .inl ⟨rfl,h⟩
 | some d=>
   simp only[setD]at h;cases j:blt d N with
   | true=>
     rw[j,x9y,LJ]at h;exact .inr ⟨d,rfl,by simpa[blt,Nat.lt_iff_add_one_le]using j,h⟩
   |false=>rw[j]at h;exact h.elim
theorem Rel.setD{N:Nat}{σ:Mem}{β:Lab}{s:St}{a:Act}{w:World}(h:Rel N σ β s a w){d:Option Nat}{v:LV}{u:Value}(l:RepL σ β v u){K:List (Nat×LV)->Prop}(i:setD N s.sl d v K):
  ∃sl,K sl/\Rel N σ β ⟨sl,s.H⟩ (a.put d u) w:=by
 rcases On i with⟨rfl,i⟩|⟨m,rfl,j,i⟩
 .exact ⟨_,i,h⟩
 .exact ⟨_,i,h.put j l⟩
def Uu:Heap->Nat->Chunk->(Heap->Prop)->Prop
 |[],_,_,_=>False
 |(j,c)::r,k,d,K=>bif j==k then K ((k,d)::r)else Uu r k d fun r=>K ((j,c)::r)
def K1:List (Nat×LV)->Nat->(List (Nat×LV)->Prop)->Prop
 |[],_,K=>K []
 |(j,l)::r,k,K=>KZ (l.kill k) fun l=>K1 r k fun r=>K ((j,l)::r)
def BY:Heap->Nat->Chunk->(Heap->Prop)->Prop
 |[],_,_,K=>K []
 | (j,c)::r,k,d,K=>bif j==k then BY r k d fun r=>K ((k,d)::r)else
   match c with
   |.obj e cs=>DI (cs.map (LV.kill k)) fun cs=>BY r k d fun r=>K ((j,.obj e cs)::r)
   |.own e sz es=>BY r k d fun r=>K ((j,.own e sz es)::r)
   |.ext x=>BY r k d fun r=>K ((j,.ext x)::r)
inductive AppK(es xs:List AV)(n m sz bytes:Nat)(K:Prop):Prop
 |mk (hn:n=es.length) (hm:m=xs.length) (hb:(n+m)*bytes<=140737488355328) (h63:n+m<=maxLen) (hx:∀x∈xs,x.cells.length=sz/\x.cells.all AV.one=true) (hK:K)
inductive BsK(es:List AV)(sz:Nat)(out:List LV)(Kp Ko:Prop):Prop
 |pure (hx:∀x∈es,x.cells.length=sz) (ho:out=(es.flatMap AV.cells).map .p) (hK:Kp)
 |own (hx:∀x∈es,x.cells.length=sz) (ho:out=(es.flatMap AV.cells).map .p) (hK:Ko)
inductive MkK(l:Int)(bytes:Nat)(K:Nat->Prop):Prop
 |mk (n:Nat) (hn:l=n) (hb:bytes*n<=140737488355328) (h63:n<=maxLen) (hK:K n)
inductive StOwn(es:List AV)(sz off:Nat)(vs:List AV)(K:List AV->Prop):Prop
 |mk (m j:Nat) (e e':AV) (ho:off=m*sz+j) (he:es[m]?=some e) (hfit:j+vs.length<=sz) (he':e'.cells=e.cells.take j++vs++e.cells.drop (j+vs.length)) (hK:K (es.set m e'))
def isV:Op->Bool
 |.move _ |.assign _ |.pick .. |.fieldAddr .. |.load .. |.nilCheck _ |.binOp .. |.unOp .. |.convert .. |.slice .. |.field .. |.indexAddr .. |.index .. |.extract .. |.build .. |.makeFunc .. => true
 |.call {callee:=.builtin .len,..} |.call {callee:=.builtin .cap,..}=>true
 |_=>false
def x0d(k:Nat)(A:Prop):Prop:=bif ble 1000 k then bif blt k 2000 then False else A else A
def Lh{A:Prop}(h:x0d k A):(k<1000\/2000<=k)/\A:=by
 unfold x0d at h;cases j:ble 1000 k with
 | false=>
   rw[j,x9p]at h;exact⟨.inl (by rw[<-z5y,z4c]at j;omega),h⟩
 | true=>
   rw[j,x9y]at h;cases i:blt k 2000 with
   |true=>rw[i]at h;exact h.elim
   | false=>
     rw[i,x9p]at h;exact⟨.inr (by rw[<-z5y]at i;simp only[blt,z4c]at i;omega),h⟩
def B7(N:Nat)(s:St)(d:Option Nat)(k:Nat)(e sz n:Nat)(es xs:List AV)(m bytes:Nat)(K:St->Prop):Prop:=
 AppK es xs n m sz bytes (x0d k <|K1 s.sl k fun sl=>BY s.H k (.own e sz (es++xs)) fun H=>setD N sl d (.hd k 0 (n+m)) fun sl=>K ⟨sl,H⟩)
def q6a(sl:List (Nat×LV))(H:Heap)(x:Operand)(K:List AV->Nat->Prop):Prop:=
 match QP sl x with
 |.p (.sl xs)=>K xs xs.length
 |.p .nils=>K [] 0
 | .hd k2 0 m=>match getH H k2 with
   |some (.own _ _ xs)=>K xs m
   |_=>False
 |_=>False
def opW(P:Program)(T:Tab)(N:Nat)(s:St)(o:Oper)(K:St->Prop):Prop:=
 match o.op with
 | .alloc e=>match T.get e with
   | some i=>match VQ (.p (AV.ofV i.zero))with
     |some cs=>DI cs fun cs=>FT 60 0 s fun k=>setD N s.sl o.dst (.ptr k 0) fun sl=>K ⟨sl,(k,.obj e cs)::s.H⟩
     |none=>False
   |none=>False
 | .box e x=>match VQ (QP s.sl x)with
   |some cs=>DI cs fun cs=>FT 60 0 s fun k=>setD N s.sl o.dst (.ptr k 0) fun sl=>K ⟨sl,(k,.obj e cs)::s.H⟩
   |none=>False
 | .store t x v=>match QP s.sl x,VQ (QP s.sl v),T.get t,o.dst with
   | .ptr k off,some vs,some i,none=>match getH s.H k with
     |some (.obj e cs)=>(vs.all LV.one&&(vs.length==i.size&&ble (off+vs.length) cs.length))=true/\
        DI (cs.take off++vs++cs.drop (off+vs.length)) fun cs=>Uu s.H k (.obj e cs) fun H=>K ⟨s.sl,H⟩
     | some (.own e sz es)=>match Nc vs with
       |some j=>(j.all AV.one&&j.length==i.size)=true/\StOwn es sz off j fun es=>Uu s.H k (.own e sz es) fun H=>K ⟨s.sl,H⟩
       |none=>False
     |some (.ext _)=>OpK P N s o K
     |none=>False
   |_,_,_,_=>OpK P N s o K
 | .buildSlice t n parts=>match T.get t with
   | some {desc:=.slice e,..}=>match T.get e with
     | some h=>match Nc (parts.toList.map fun x=>QP s.sl x.2),CE (fun i=>some (i*h.size,h.size)) (List.replicate (n*h.size) (.p .any)) (parts.toList.map fun x=>(x.1,QP s.sl x.2))with
       |some es,some out=>(n*h.size<=16777216/\0<h.size)/\BsK es h.size out
          (es.length=n/\setD N s.sl o.dst (.p (.sl es)) fun sl=>K ⟨sl,s.H⟩)
          (es.length=n/\FT 60 0 s fun k=>setD N s.sl o.dst (.hd k 0 n) fun sl=>K ⟨sl,(k,.own e h.size es)::s.H⟩)
       |_,_=>OpK P N s o K
     |none=>OpK P N s o K
   |_=>OpK P N s o K
 | .makeSlice t l c=>match T.get t,QP s.sl l,QP s.sl c with
   | some {desc:=.slice e,..},.p (.int _ l),.p (.int _ c)=>match T.get e with
     |some h=>(l=c/\h.zero.cells.size=h.size/\0<h.size)/\MkK l h.bytes fun n=>FT 60 0 s fun k=>setD N s.sl o.dst (.hd k 0 n) fun sl=>K ⟨sl,(k,.own e h.size (List.replicate n (AV.ofV h.zero)))::s.H⟩
     |none=>False
   |_,_,_=>OpK P N s o K
 | .call { callee:=.builtin .append,args,argTypes}=>match args.toList,argTypes.toList with
   | [x,y],[t,t']=>match T.get t with
     | some {desc:=.slice e,..}=>match T.get e with
       | some h=>(t=t'/\h.zero.cells.size=h.size/\0<h.size)/\match QP s.sl x with
         | .hd k 0 n=>match getH s.H k with
           |some (.own e' sz es)=>(e'=e/\sz=h.size)/\q6a s.sl s.H y fun xs m=>B7 N s o.dst k e h.size n es xs m h.bytes K
           |_=>False
         |.p .nils=>FT 60 0 s fun k=>q6a s.sl s.H y fun xs m=>B7 N ⟨s.sl,(k,.own e h.size [])::s.H⟩ o.dst k e h.size 0 [] xs m h.bytes K
         |_=>OpK P N s o K
       |none=>False
     |_=>OpK P N s o K
   |_,_=>OpK P N s o K
 | .call {callee:=.value f,args,..}=>match QP s.sl f with
   |.p (.fn g caps)=>DI (args.toList.map (QP s.sl)++caps.map .p) fun ls=>CallK P N g ls o.dst s K
   |_=>OpK P N s o K
 |_=>OpK P N s o K
section
variable {P:Program}{T:Tab}{N:Nat}{σ:Mem}{β:Lab}{a:Act}{w:World}{o:Oper}{K:St->Prop}{s:St}
def RL(P:Program)(N:Nat)(σ:Mem)(β:Lab)(a:Act)(w:World)(s:St)(o:Oper)(K:St->Prop):Prop:=
 ∀Q,o.wp P a w (fun h w'=>∃σ' β' s',K s'/\Rel N σ' β' s' h w'/\Later σ β s.H w σ' β' s'.H w') Q
theorem Jw{k:Nat}:∀{ls:List LV},LV.free.freeAll k ls=true ↔ ∀l∈ls,l.free k=true
 |[]=>by simp[LV.free.freeAll]
 |l::r=>by simp[LV.free.freeAll,Jw (ls:=r)]
theorem RepC.set{ls:List LV}{vs:List Value}(h:RepC σ β ls vs){k:Nat}(i:Option BInfo)(q:LV.free.freeAll k ls=true):RepC σ (β.set k i) ls vs:=
 ⟨h.1,fun j l m=>let ⟨u,h1,h2⟩:=h.2 j l m;⟨u,h1,h2.set i (XF q j l m)⟩⟩
def F8(h:ZS k s=true)(x:Operand):(QP s.sl x).free k=true:=by
 cases x with
 |tmp t=>exact(XM h).2 t
 |_=>rfl
def Ya{l:LV}{ls:List LV}(h:VQ l=some ls)(i:l.free k=true):LV.free.freeAll k ls=true:=by
 have one:∀{l:LV},l.free k=true->(bif l.one then some [l]else none)=some ls->LV.free.freeAll k ls=true:=fun {l} i h=>by
  cases m:l.one with
  |false=>rw[m]at h;cases h
  |true=>rw[m]at h;cases h;simp[LV.free.freeAll,i]
 cases l with
 | p a=>cases a with
   | agg cs=>
     simp only[VQ,z2f]at h;subst h;rw[Jw];intro l q;obtain⟨c,_,rfl⟩:=x8s.1 q;rfl
   |raw x=>exact one (l:=.p (.raw x)) rfl h
   |_=>first|(simp[VQ,LV.one,AV.one]at h;done)|(simp[VQ,LV.one,AV.one]at h;subst h;rfl)
 |agg cs=>simp only[VQ,z2f]at h;subst h;exact i
 |ptr j o=>exact one i h
 |hd j o n=>exact one i h
 |ext j d=>exact one i h
 |tup vs=>exact one i h
def XS{w':World}{j:Act->World->Prop}{Q:Exit->Act->World->Prop}(i:(execOp a.eval o).run P w=.ok (.value v) w')(h:j (a.put o.dst v) w'):o.wp P a w j Q:=by
 unfold Oper.wp;rw[i];exact h
def NQ{w':World}{j:Act->World->Prop}{Q:Exit->Act->World->Prop}(i:(execOp a.eval o).run P w=.ok .skip w')(h:j (a.put o.dst undef) w'):o.wp P a w j Q:=by
 unfold Oper.wp;rw[i];exact h
def C7(e:TypeId){cs:List LV}{vs:Array Value}(n:(execOp a.eval o).run P w=.ok (.value (.pointer (some ⟨w.heap.size,0,none⟩))) (w.alloc (.cells vs e)))(hr:Rel N σ β s a w)(r:RepC σ β cs vs.toList)(c:∀k,ZS k s=true->LV.free.freeAll k cs=true)(h:FT 60 0 s fun k=>setD N s.sl o.dst (.ptr k 0) fun sl=>K ⟨sl,(k,.obj e cs)::s.H⟩):RL P N σ β a w s o K:=by
 intro Q;obtain⟨k,x,h⟩:=YU h;have p:=r.set (k:=k) (some ⟨w.heap.size,0,0,[],x8m _⟩) (c k x);have i:(Chunk.obj e cs).holds σ (β.set k (some ⟨w.heap.size,0,0,[],x8m _⟩)) (w.alloc (.cells vs e)) k:=
  ⟨⟨w.heap.size,0,0,[],x8m _⟩,vs,by simp[Lab.set],heap_alloc_new w _,by simpa using r.1,fun j l d=>by
    obtain⟨u,y,z⟩:=p.2 j l d;exact⟨u,by simpa using y,z⟩⟩
 obtain⟨q,f⟩:=hr.new x rfl rfl i;obtain⟨sl,b,m⟩:=q.setD (RepL.ptr k 0 ⟨w.heap.size,0,0,[],x8m _⟩ (by simp[Lab.set])) h;exact XS n ⟨σ,_,_,b,m,f⟩
def C8(e:TypeId){sz n:Nat}{es:List AV}{vs:Array Value}(p:(execOp a.eval o).run P w=.ok (.value (.slice (some ⟨w.heap.size,0,none⟩) n n)) (w.alloc (.cells vs e)))(hr:Rel N σ β s a w)(u:es.length=n)(q:vs.size=n*sz)(x:RepE σ sz es vs.toList)(i:n<=maxLen)(h:FT 60 0 s fun k=>setD N s.sl o.dst (.hd k 0 n) fun sl=>K ⟨sl,(k,.own e sz es)::s.H⟩):RL P N σ β a w s o K:=by
 intro Q;obtain⟨k,z,h⟩:=YU h;have j:(Chunk.own e sz es).holds σ (β.set k (some ⟨w.heap.size,n,sz,[],i⟩)) (w.alloc (.cells vs e)) k:=by
  refine WQ.2 (.inr ⟨⟨w.heap.size,n,sz,[],i⟩,vs,by simp[Lab.set],rfl,heap_alloc_new w _,q,by simp[u],i,?_⟩);have:vs.toList.take (es.length*sz)=vs.toList:=x9q (by simp[q,u]);rw[this];exact x
 obtain⟨r,b⟩:=hr.new z rfl rfl j;have l:=z5c (σ:=σ) (β:=β.set k (some ⟨w.heap.size,n,sz,[],i⟩)) k 0 n ⟨w.heap.size,n,sz,[],i⟩ 0 (by simp[Lab.set]) (by simp) (.inl (by simp));simp only[Nat.sub_zero]at l;obtain⟨sl,y,m⟩:=r.setD l h;exact XS p ⟨σ,_,_,y,m,b⟩
def Ai(hT:TabOK P T){e:TypeId}(l:o.op=.alloc e)(h:opW P T N s o K)(hr:Rel N σ β s a w):RL P N σ β a w s o K:=by
 simp only[opW,l]at h;split at h<;>first|exact h.elim|skip
 rename_i i n;split at h<;>first|exact h.elim|skip
 rename_i cs j;rw[VH]at h;have m:=hT _ _ n;refine C7 e (vs:=i.zero.cells) ?_ hr (PU (β:=β) (.p (Rep.ofV σ i.zero)) j) (fun k q=>Ya j rfl) h;simp[execOp,l,Instr.alloc,m.zeroValue,newVar,newRow]
def q4e{e:TypeId}{x:Operand}(j:o.op=.box e x)(h:opW P T N s o K)(hr:Rel N σ β s a w):RL P N σ β a w s o K:=by
 simp only[opW,j]at h;split at h<;>first|exact h.elim|skip
 rename_i cs i;rw[VH]at h;refine C7 e (vs:=(a.eval x).cells) ?_ hr (PU (QX hr.E x) i) (fun k l=>Ya i (F8 l x)) h;simp[execOp,j,Instr.box,newVar,newRow]
end
section
variable {P:Program}{T:Tab}{N:Nat}{σ:Mem}{β:Lab}{a:Act}{w:World}{o:Oper}{K:St->Prop}{s:St}
theorem UU:∀{H:Heap}{k:Nat}{c:Chunk}{K:Heap->Prop},(H.map (·.1)).Nodup->Uu H k c K->
  ∃H',K H'/\H'.map (·.1)=H.map (·.1)/\(∀j d,(j,d)∈H'->j≠k->(j,d)∈H)/\∀d,(k,d)∈H'->d=c
 |[],_,_,_,_,h=>h.elim
 | (j,d)::r,k,c,K,hn,h=>by
   simp only[Uu]at h;simp only[x9f,z0h]at hn;by_cases n:j=k
   .subst n;simp only[z2e,x9y]at h;refine⟨_,h,rfl,fun i e l m=>?_,fun e l=>?_⟩
    .rcases x8r.1 l with l|l
     .cases l;exact absurd rfl m
     .exact x8b _ l
    .rcases x8r.1 l with l|l
     .cases l;rfl
     .exact absurd (x8s.2 ⟨_,l,rfl⟩) hn.1
   .have:(j==k)=false:=by simp[n]
    rw[this,x9p]at h;obtain⟨H',x,p,q,u⟩:=UU hn.2 h;refine⟨_,x,by simp[p],fun i e l m=>?_,fun e l=>?_⟩
    .rcases x8r.1 l with l|l
     .cases l;simp
     .exact x8b _ (q i e l m)
    .rcases x8r.1 l with l|l
     .cases l;exact absurd rfl n
     .exact u e l
def QN{H:Heap}{c:Chunk}(h:getH H k=some c):k∈H.map (·.1):=x8s.2 ⟨_,QH h,rfl⟩
def Dw{x v:Operand}(r:o.op=.store t x v)(j:o.dst=none)(hr:Rel N σ β s a w){off:Nat}{i:BInfo}(G:β k=some i)(J:a.eval x=.pointer (some ⟨i.blk,off,none⟩)){e:TypeId}{vs:Array Value}(F:w.heap[i.blk]?=some (.cells vs e (0,0))){n:Nat}(y:∀w,(sizeOf t).run P w=.ok n w)(q:(a.eval v).cells.size=n)(l:∀u∈(a.eval v).cells.toList,u.oneCell'=true)(z:off+n<=vs.size)(I:k∈s.H.map (·.1)){c:Chunk}(D:c.holds σ β (w.setRow i.blk (vs.toList.take off++(a.eval v).cells.toList++vs.toList.drop (off+n)).toArray) k)(h:Uu s.H k c fun H=>K ⟨s.sl,H⟩):RL P N σ β a w s o K:=by
 intro Q;obtain⟨H',C,b,f,g⟩:=UU hr.heap.nodup h;have m:(execOp a.eval o).run P w=.ok .skip (w.setRow i.blk (vs.toList.take off++(a.eval v).cells.toList++vs.toList.drop (off+n)).toArray):=by
  have p:=run_storeCells_at P i.blk off e (a.eval v).cells.toList 0 vs w F (by simp;omega) l;simp only[z3q,z0a,q]at p;simp[execOp,r,Instr.storeAt,Instr.sureAddr,J,storeVar,y,q,p]
 obtain⟨A,B⟩:=q2n hr.heap I G b f (fun d j=>g d j▸D);refine NQ m ⟨σ,β,⟨s.sl,H'⟩,C,⟨?_,?_,?_,A⟩,B⟩
 .rw [j];exact hr.size
 .rw [j];exact hr.defers
 .rw [j];exact hr.E
theorem RepC.one{ls:List LV}{vs:List Value}(h:RepC σ β ls vs)(q:ls.all LV.one=true):∀u∈vs,u.oneCell'=true:=fun u x=>by
 obtain⟨j,m,rfl⟩:=z0l.1 x;have i:j<ls.length:=by rw[<-h.1];exact m
 obtain⟨y,l,r⟩:=h.2 j ls[j] (by simp[i]);rw[x8h m]at l;cases l;exact r.oneCell (z0k.1 q _ (x8o i))
def Ao(hT:TabOK P T){x v:Operand}(O:o.op=.store t x v)(h:opW P T N s o K)(hr:Rel N σ β s a w):RL P N σ β a w s o K:=by
 simp only[opW,O]at h;split at h
 .rename_i k off vs i hx hv ht hd;have B:=QX hr.E x;rw[hx]at B;have A:=PU (QX hr.E v) hv;have z:(a.eval v).cells.size=vs.length:=by have:=A.1;simpa using this
  split at h<;>first|exact h.elim|skip
  .rename_i e cs hg;obtain⟨Y,h⟩:=h;rw[VH]at h;simp only[x9w,z2k,z4c]at Y;obtain⟨H,I,hb3⟩:=Y;obtain⟨U,b,f,hh,hn,J⟩:=hr.heap.chunks k _ (QH hg);generalize Q:a.eval x=xv at B;cases B with
   | ptr _ _ bi' M=>
     rw[f]at M;cases M;refine Dw (n:=vs.length) O hd hr f Q hh (fun w=>by rw[I];exact(hT _ _ ht).sizeOf w) z (A.one H) (by omega) (QN hg) ?_ h;have Z:RepC σ β cs b.toList:=⟨by simpa using hn,fun j l hj=>by simpa using J j l hj⟩;have F:=((Z.take off).append A).append (Z.drop (off+vs.length));exact⟨U,_,f,setRow_heap w U.blk b _ e _ hh,by simpa using F.1,fun j l hj=>by simpa using F.2 j l hj⟩
  .rename_i e sz es hg;split at h<;>first|exact h.elim|skip
   rename_i G hus;have hvs:=HZ hus;subst hvs;obtain⟨Y,m,j,el,el',ho,he,hfit,he',h⟩:=h;simp only[x9w,z2k]at Y;obtain⟨H,I⟩:=Y;simp only[x8g]at z;generalize Q:a.eval x=xv at B;cases B with
   | ptr _ _ U M=>
     rcases hr.heap.chunks k _ (QH hg)with h0|⟨bi',b,f,hsz,hh,hn,hle,hmax,J⟩
     .rw [M]at h0;cases h0.1
     .rw [M]at f;cases f;have hmlt:m<es.length:=(x8t.1 he).1;have hoff:off+G.length<=b.size:=by
       have:(m+1)*sz<=U.cap*sz:=z0y _ (by omega);rw[z1u]at this;omega
      refine Dw (n:=G.length) O hd hr M Q hh (fun w=>by rw[I];exact(hT _ _ ht).sizeOf w) z (A.one ?_) hoff (QN hg) ?_ h
      .simp only[List.all_map];exact H
      .refine .inr ⟨U,_,M,hsz,setRow_heap w U.blk b _ e _ hh,?_,by simpa using hle,hmax,fun q y R=>?_⟩
       .simp only[z2l,x8d,x9n,z1k,z0a,z];omega
       .have d:=J m el he;have g:el'.cells.length=sz:=by
         rw[he'];simp only[x8d,x9n,z1k,d.1];omega
        have D:∀(p:Nat),(C:List Value)->C=(b.toList.take off++(a.eval v).cells.toList++b.toList.drop (off+G.length))->
          (p<off->C[p]?=b[p]?)/\(off<=p->p<off+G.length->C[p]?=(a.eval v).cells[p-off]?)/\(off+G.length<=p->C[p]?=b[p]?):=fun p C hvs'=>by
         subst hvs';refine⟨fun V=>?_,fun V h2=>?_,fun V=>?_⟩
         .rw [x9u,z0f (by simp;omega),z0u,if_pos V];simp
         .rw [x9u,z0j (by simp;omega),z0f (by simp;omega)];simp only[x9n,z0a,z2q];congr 1;omega
         .rw [z0j (by simp;omega)];simp only[x8d,x9n,z0a,z0p,z2q,z];congr 1;omega
        by_cases hq:m=q
        .subst hq;rw[x9a hmlt]at R;cases R;refine⟨g,fun n c r=>?_⟩;have hnlt:n<sz:=by rw[<-g];exact(x8t.1 r).1
         obtain⟨c1,c2,c3⟩:=D (m*sz+n) _ rfl;simp only[z4j];rw[he']at r;by_cases V:n<j
         .rw [c1 (by omega)];rw[x9u,z0f (by simp[d.1];omega),z0u,if_pos V]at r;exact d.2 n c r
         .by_cases h2:n<j+G.length
          .rw [c2 (by omega) (by omega)];rw[x9u,z0j (by simp[d.1];omega),z0f (by simp[d.1];omega)]at r;have L:min j el.cells.length=j:=by rw[d.1];omega
           simp only[x9n,L]at r;obtain⟨u,h3,h4⟩:=A.2 (n-j) (.p c) (by simp[r]);refine⟨u,?_,?_⟩
           .rw [show m*sz+n-off=n-j by omega];simpa using h3
           .cases h4 with
            |p h=>exact h
          .rw [c3 (by omega)];rw[z0j (by simp[d.1];omega)]at r;have L:min j el.cells.length=j:=by rw[d.1];omega
           simp only[x8d,x9n,L,z0p]at r;rw[show j+G.length+(n-(j+G.length))=n by omega]at r;exact d.2 n c r
        .rw [z0z hq]at R;refine⟨(J q y R).1,fun n c r=>?_⟩;have hnlt:n<sz:=by rw[<-(J q y R).1];exact(x8t.1 r).1
         obtain⟨c1,c2,c3⟩:=D (q*sz+n) _ rfl;simp only[z4j];rcases Nat.lt_or_gt_of_ne hq with hlt|hgt
         .have:(m+1)*sz<=q*sz:=z0y _ hlt;rw[z1u]at this;rw[c3 (by omega)];exact(J q y R).2 n c r
         .have:(q+1)*sz<=m*sz:=z0y _ hgt;rw[z1u]at this;rw[c1 (by omega)];exact(J q y R).2 n c r
  .exact h.ok σ β a w hr
 .exact h.ok σ β a w hr
end
def z3v:type_of%@StOwn.mk:=@StOwn.mk
def z3k:type_of%@MkK.mk:=@MkK.mk
def z4x:type_of%@BsK.own:=@BsK.own
end Go.Ab
