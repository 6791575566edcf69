/- The reckoning 'valW' is sound: slices, indexes, literals; and the whole. Conditions: the table of types is the program's own. -/
import Derived.Laws.OwnMore
import Derived.Test.YtgpjfppgphaobaaGreatEndA2
set_option linter.all false
set_option maxRecDepth 100000
set_option maxHeartbeats 16000000
open Array (ext')
open Nat (ble blt)
namespace Go.Ab
variable {k:Nat}{t:TypeId}{v:Value}{v1:List Value}
section
variable {P:Program}{T:Tab}{hr:Bool}{σ:Mem}{β:Lab}{a:Act}{w:World}{o:Oper}{K:LV->Prop}{s:St}
def GI(r:∀i,RepL σ β (getS s.sl i) (a.tmps.getD i undef)){x:Option Operand}{l:Option Int}(h:Bv s.sl x=some l):
  (l=none/\x=none)\/∃y k n,x=some y/\l=some n/\a.eval y=.int k n:=by
 cases x with
 |none=>simp[Bv]at h;exact .inl ⟨h.symm,rfl⟩
 | some y=>
   simp only[Bv,x9d]at h;obtain⟨n,j,rfl⟩:=h;have q:=QX r y;refine .inr ⟨y,?_⟩;generalize u:QD s.sl y=e at j q;cases e with
   | p c=>cases c with
     | int k m=>
       simp[RB]at j;subst j;exact⟨k,m,rfl,rfl,q.int⟩
     |_=>simp[RB]at j
   |_=>simp[RB]at j
def JY{isSlice:Bool}{len cap:Nat}{x u:Option Operand}{l h:Option Int}(g:(l=none/\x=none)\/∃y k n,x=some y/\l=some n/\a.eval y=.int k n)(f:(h=none/\u=none)\/∃y k n,u=some y/\h=some n/\a.eval y=.int k n){l' i:Nat}(r:l.getD 0=l')(q:h.getD len=i)(z:l'<=i)(b:i<=cap)(w':World):
  (Instr.sliceBounds isSlice len cap (x.map a.eval) (u.map a.eval) none).run P w'=.ok (l',i,cap) w':=by
 have key:∀(k:IntKind)(n:Int)(m y:Nat)(j:BoundsCode),n=m->m<=y->(Instr.sliceBound (.int k n) y j).run P w'=.ok m w':=fun k n m y j B A=>by
  subst B;simp[Instr.sliceBound,asIntOf,A]
 rcases g with⟨rfl,rfl⟩|⟨y,k,n,rfl,rfl,c⟩<;>rcases f with⟨rfl,rfl⟩|⟨C,d,e,rfl,rfl,p⟩<;>simp only[Option.getD_none,x5b]at r q
 .have:l'=0:=by omega
  have:len=i:=by omega
  subst_vars
  simp[Instr.sliceBounds]
 .have:l'=0:=by omega
  subst this;simp[Instr.sliceBounds,p,key d e i cap _ q b]
 .have:len=i:=by omega
  subst this;simp[Instr.sliceBounds,c,key k n l' len _ r z]
 .simp [Instr.sliceBounds,c,p,key d e i cap _ q b,key k n l' i _ r z]
def Er(hT:TabOK P T){x:Operand}{lo r mx:Option Operand}(y:o.op=.slice t x lo r mx)(h:HL P T hr s o K)(J:∀i,RepL σ β (getS s.sl i) (a.tmps.getD i undef))(hH:HRel σ β s.H w):Snd P hr σ β a w o K:=by
 cases mx with
 |some m=>simp only[HL,y]at h;exact h.ok σ β a w J hH
 |none=>
 simp only[HL,y]at h;have C:=QX J x;split at h
 .rename_i _ _ _ l h' g el eh;have g:=hT.of g;have U:=GI J el;have Q:=GI J eh;split at h<;>first|exact h.elim|skip
  rename_i c Z;rw[Z]at C;obtain⟨M,hc⟩:=C.strV;obtain⟨l',q,D,E,F,A,G⟩:=h;refine .mk G (.p (.str _ (by simp;omega))) fun w' _ _=>?_;have B:=JY (P:=P) (isSlice:=false) (len:=c.length) (cap:=c.length) U Q D E F A w';have f:(⟨c.toArray⟩:ByteArray).size=c.length:=Qv c;simp only[execOp,y,Instr.sliceAt,Instr.slice,Sem.run_bind,run_underlying g,Result.andThen_ok,M,Option.map_none,Option.isSome_none,x8e,x9g,f,B,Sem.run_pure];congr 3;apply ByteArray.ext;simp[ByteArray.data_extract,List.drop_take]
 .rename_i e _ _ _ l h' g el eh;have g:=hT.of g;have U:=GI J el;have Q:=GI J eh;split at h
  .rename_i ie es R Z;rw[Z]at C;obtain⟨f,l',q,D,E,F,A,G⟩:=h;have n:=(hT _ _ R).sizeOf;generalize M:a.eval x=v at C;cases C with
   | p C=>cases C with
     | nilsl=>
       simp at A;have:l'=0:=by omega
       subst A this;refine .mk G (.p (by simpa using .nilsl)) fun w' _ _=>?_;have B:=JY (P:=P) (isSlice:=true) (len:=0) (cap:=0) U Q D E F (x4m _) w';simp[execOp,y,Instr.sliceAt,Instr.slice,run_underlying g,M,B,n]
     | slz b=>
       simp at A;have:l'=0:=by omega
       subst A this;refine .mk G (.p (by simpa using .slz b)) fun w' _ _=>?_;have B:=JY (P:=P) (isSlice:=true) (len:=0) (cap:=0) U Q D E F (x4m _) w';simp[execOp,y,Instr.sliceAt,Instr.slice,run_underlying g,M,B,n]
     | sl _ b off cap sz cells u B Y hmax L hc hrr=>
       have O:=JY (P:=P) (isSlice:=true) (len:=es.length) (cap:=cap) U Q D E F (x5y A Y);refine .mk (u:=.slice (some (if cap=l' then⟨b,off,none⟩else⟨b,off+l'*ie.size,none⟩)) (q-l') (cap-l')) G (.p ?_) fun w' _ _=>?_
       .have d:((es.take q).drop l').length=q-l':=by simp;omega
        by_cases z:cap=l'
        .have:(es.take q).drop l'=[]:=x6k (by rw[d];omega);rw[if_pos z,this];have:=Rep.sl (σ:=σ) [] b off (cap-l') 0 cells u B (by simp) (by omega) (by simp) (by simp) (by simp)
         rwa[show q-l'=([]:List AV).length by simp;omega]
        .rw [if_neg z,<-d];have get:∀(i:Nat)(e:AV),((es.take q).drop l')[i]?=some e->es[l'+i]?=some e:=fun i e r=>by
          rw[x5o,x5s]at r;split at r
          .exact r
          .cases r
         refine .sl _ b _ _ sz cells (fun i j=>u (l'+i) j) B (by rw[d];omega) (by omega) (fun i e r=>L _ _ (get i e r)) (fun i e j c r hj=>?_) fun i e j c r hj=>hrr _ _ _ _ (get i e r) hj;have h5:=hc _ _ _ _ (get i e r) hj;have h6:sz=ie.size:=by
          have h7:=L _ _ (get i e r);rw[<-h7];exact f e (x4p (get i e r))
         subst h6;rw[<-h5];congr 1;rw[x6r];omega
       .simp [execOp,y,Instr.sliceAt,Instr.slice,run_underlying g,M,O,n,JF];split<;>rfl
  .rename_i ie k off len R Z;rw[Z]at C;split at h<;>first|exact h.elim|skip
   rename_i e' sz es hg;obtain⟨f,l',q,D,E,F,A,G⟩:=h;have n:=(hT _ _ R).sizeOf;generalize M:a.eval x=v at C;cases C with
   | hdn _ V=>
     simp at A;have:l'=0:=by omega
     subst A this;refine .mk G (by simpa using .hdn k V) fun w' _ _=>?_;have B:=JY (P:=P) (isSlice:=true) (len:=0) (cap:=0) U Q D E F (x4m _) w';simp[execOp,y,Instr.sliceAt,Instr.slice,run_underlying g,M,B,n]
   | hd _ _ _ i oo V hle I=>
     have O:=JY (P:=P) (isSlice:=true) (len:=len) (cap:=i.cap-off) U Q D E F (by omega);have hisz:i.sz=ie.size:=by
      rcases hH.chunks k _ (QG hg)with h0|⟨i',vs,r,hs',_⟩
      .rw [V]at h0;cases h0.1
      .rw [V]at r;cases r;rw[hs',f]
     refine .mk (u:=.slice (some (if i.cap-off=l' then⟨i.blk,oo,none⟩else⟨i.blk,oo+l'*ie.size,none⟩)) (q-l') (i.cap-off-l')) G ?_ fun w' _ _=>?_
     .rw [show i.cap-off-l'=i.cap-(off+l') by omega];by_cases z:i.cap-off=l'
      .rw [if_pos z];refine .hd k (off+l') (q-l') i oo V (by omega) ?_;by_cases h0:off+l'=0
       .have e1:off=0:=by omega
        have e2:l'=0:=by omega
        subst e1 e2;rcases I with I|I
        .exact .inl (by simpa using I)
        .omega
       .exact .inr ⟨by omega,by omega⟩
      .rw [if_neg z];refine .hd k (off+l') (q-l') i _ V (by omega) (.inl ?_);rcases I with I|I
       .rw [I,hisz,x6r]
       .omega
     .simp [execOp,y,Instr.sliceAt,Instr.slice,run_underlying g,M,O,n,JF];split<;>rfl
  .exact h.ok σ β a w J hH
 .exact h.ok σ β a w J hH
def D5(hT:TabOK P T){x i:Operand}(d:o.op=.indexAddr t x i)(h:HL P T hr s o K)(hs:∀i,RepL σ β (getS s.sl i) (a.tmps.getD i undef))(hH:HRel σ β s.H w):Snd P hr σ β a w o K:=by
 simp only[HL,d]at h;have q:=QX hs x;have C:=QX hs i;split at h<;>first|exact h.elim|skip
 .rename_i e _ _ _ ki n E Q;rw[Q]at C;have C:=C.int;have E:=hT.of E;split at h<;>first|exact h.elim|skip
  .rename_i V es r M;rw[M]at q;obtain⟨k,el,z,B,f,A⟩:=h;have l:=(hT _ _ r).sizeOf;generalize D:a.eval x=v at q;cases q with
   | p q=>cases q with
     |nilsl=>simp at B
     |slz b=>simp at B
     | sl _ b off cap sz cells u hb hcap hmax hsz' hc hrr=>
       have hlt:k<es.length:=(x4u.1 B).1;have h6:sz=V.size:=by rw[<-hsz' _ _ B,f]
       subst h6;refine .mk A (.p (.ip _ b (off+k*V.size) cells (u k) hb (fun j c hj=>hc _ _ _ _ B hj) fun j c hj=>hrr _ _ _ _ B hj)) fun w' _ _=>?_;simp[execOp,d,Instr.indexAt,C,asIntOf,run_underlying E,D,z,hlt,l,JF]
  .rename_i V k off len r M;rw[M]at q;split at h<;>first|exact h.elim|skip
   rotate_left 1
   .rename_i e' e2 sz rows Z Y;obtain⟨f,m,J,y,A⟩:=h;have l:=(hT _ _ r).sizeOf;generalize D:a.eval x=v at q;cases q with
    |hdn _ z=>omega
    | hd _ _ _ F oo z R g=>
      have I:F.sz=1:=by
       rcases hH.chunks k _ (QG Y)with O|⟨i',vs,G,U,_⟩
       .rw [z]at O;cases O.1
       .rw [z]at G;cases G;exact U
      have L:oo=off:=by rcases g with g|g;rw[g,I,x9f];omega
      refine .mk A (.ptr k _ F z) fun w' _ _=>?_;simp[execOp,d,Instr.indexAt,C,asIntOf,run_underlying E,D,J,y,l,JF,L,<-f]
   .rename_i e' cs Y;obtain⟨O,m,J,y,A⟩:=h;have l:=(hT _ _ r).sizeOf;generalize D:a.eval x=v at q;cases q with
    |hdn _ z=>omega
    | hd _ _ _ F oo z R g=>
      have L:oo=0:=by
       rcases g with g|g
       .rw [g,O,Nat.zero_mul]
       .omega
      refine .mk A (.ptr k _ F z) fun w' _ _=>?_;simp[execOp,d,Instr.indexAt,C,asIntOf,run_underlying E,D,J,y,l,JF,L]
   rename_i e' sz es Y;obtain⟨f,m,J,y,A⟩:=h;have l:=(hT _ _ r).sizeOf;generalize D:a.eval x=v at q;cases q with
   |hdn _ z=>omega
   | hd _ _ _ F oo z R g=>
     have I:F.sz=sz:=by
      rcases hH.chunks k _ (QG Y)with O|⟨i',vs,G,U,_⟩
      .rw [z]at O;cases O.1
      .rw [z]at G;cases G;exact U
     have L:oo=off*sz:=by rcases g with g|g;rw[g,I];omega
     refine .mk A (.ptr k _ F z) fun w' _ _=>?_;simp[execOp,d,Instr.indexAt,C,asIntOf,run_underlying E,D,J,y,l,JF,L,f,x6r]
  .rename_i V k ra len r M;rw[M]at q;split at h<;>first|exact h.elim|skip
   rename_i e' e2 sz rows Z Y;obtain⟨f,m,J,y,A⟩:=h;have l:=(hT _ _ r).sizeOf;generalize D:a.eval x=v at q;cases q with
   | ext _ _ F _ z hd=>
     rcases hd with⟨_,O,_⟩|⟨b,c,hb,R,rfl⟩
     .omega
     .refine .mk A (.ext k _ F _ z ⟨b,c,hb,rfl⟩) fun w' _ _=>?_;simp[execOp,d,Instr.indexAt,C,asIntOf,run_underlying E,D,J,y,l,JF,f]
 .rename_i len e _ _ _ ki n E Q;rw[Q]at C;have C:=C.int;have E:=hT.of E;split at h<;>first|exact h.elim|skip
  .rename_i V cs r M;rw[M]at q;obtain⟨m,J,y,A⟩:=h;have l:=(hT _ _ r).sizeOf;cases q with
   | p q=>
     have hx0:=q;generalize D:a.eval x=v at q hx0;cases q with
     | ip _ b off cells u hb hc hrr=>
       refine .mk A (.p (hx0.ip_drop _)) fun w' _ _=>?_;simp[execOp,d,Instr.indexAt,C,asIntOf,run_underlying E,D,J,y,l,JF,Instr.sureAddr]
  .rename_i V k off r M;rw[M]at q;obtain⟨m,J,y,A⟩:=h;have l:=(hT _ _ r).sizeOf;generalize D:a.eval x=v at q;cases q with
   | ptr _ _ F z=>
     refine .mk A (.ptr k _ F z) fun w' _ _=>?_;simp[execOp,d,Instr.indexAt,C,asIntOf,run_underlying E,D,J,y,l,JF,Instr.sureAddr]
def El(hT:TabOK P T){x i:Operand}(q:o.op=.index t x i)(h:HL P T hr s o K)(M:∀i,RepL σ β (getS s.sl i) (a.tmps.getD i undef)):Snd P hr σ β a w o K:=by
 simp only[HL,q]at h;have g:=QX M x;have j:=QX M i;split at h<;>first|exact h.elim|skip
 .rename_i _ _ _ R n y l;rw[l]at j;have j:=j.int;have y:=hT.of y;split at h<;>first|exact h.elim|skip
  rename_i c D;rw[D]at g;obtain⟨H,L⟩:=g.strV;obtain⟨k,b,O,J,A⟩:=h;refine .mk A (.p (.int _ _)) fun w' _ _=>?_;have C:(ByteArray.mk c.toArray)[k]?=some b:=by
   have F:k<c.length:=(x4u.1 J).1;have z:k<(ByteArray.mk c.toArray).size:=by rw[Qv];exact F
   rw[getElem?_pos (ByteArray.mk c.toArray) k z];congr 1;have:c[k]=b:=(x4u.1 J).2;rw[<-this];rfl
  simp[execOp,q,Instr.index,j,asIntOf,run_underlying y,H,O,C]
 .rename_i len e _ _ _ R n y l;rw[l]at j;have j:=j.int;have y:=hT.of y;split at h<;>first|exact h.elim|skip
  rename_i U cs E D;rw[D]at g;obtain⟨vs,H,_,L⟩:=q8m g;obtain⟨m,Q,G,A⟩:=h;have I:=Fk A;rw[List.map_drop]at I;obtain⟨c,u,⟨c',B,rfl⟩,d,f⟩:=Xm hT I L;have r:=(hT _ _ E).sizeOf;exact .mk B d fun w' _ _=>by simp[execOp,q,Instr.index,j,asIntOf,run_underlying y,H,Q,G,r,f]
def Nh{z:Fn}{first m:Array Operand}(q:o.op=.makeFunc z first m)(h:HL P T hr s o K)(y:∀i,RepL σ β (getS s.sl i) (a.tmps.getD i undef))(hH:HRel σ β s.H w):Snd P hr σ β a w o K:=by
 cases z with
 | func f=>
   simp only[HL,q]at h;split at h
   .rename_i l e d;have u:first=#[]:=by simpa using e
    subst u;have:=GY d;have x:m.size=l.length:=by
     have:=x6h List.length this;simpa using this
    refine .mk h (.p (.fn f l (m.map a.eval) (fun j=>(m.map a.eval).getD j undef) (by simp[x]) (fun j c r=>?_) fun j c r=>?_)) fun w' _ _=>by
     simp[execOp,q,Instr.makeFunc]
    .have n:j<m.size:=by rw[x];exact(x4u.1 r).1
     simp[n]
    .have n:j<m.size:=by rw[x];exact(x4u.1 r).1
     have b:(m.toList.map (QD s.sl))[j]?=some (.p c):=by rw[this];simp[r]
     simp[n]at b⊢;have:=QX y m[j];rw[b]at this;cases this with
     |p h=>exact h
   .exact h.ok σ β a w y hH
 |_=>simp only[HL,q]at h;exact h.ok σ β a w y hH
def q5k(hT:TabOK P T){args:Array Operand}{argTypes:Array TypeId}(J:o.op=.call {callee:=.builtin .len,args,argTypes})(h:HL P T hr s o K)(E:∀i,RepL σ β (getS s.sl i) (a.tmps.getD i undef))(hH:HRel σ β s.H w):Snd P hr σ β a w o K:=by
 simp only[HL,J]at h;have j:∀{A B:Type}(f:A->B)(l:Array A)(b:B),l.toList.map f=[b]->∃x,l=#[x]/\f x=b:=fun f l b C=>by
  cases M:l.toList with
  |nil=>rw[M]at C;cases C
  | cons x r=>
    rw[M]at C;cases r with
    |nil=>exact⟨x,by apply ext';simpa using M,by simpa using C⟩
    |cons y r=>simp at C
 have done:∀(x:Operand)(t:TypeId),args=#[x]->argTypes=#[t]->∀(n:Nat)(w':World),(Builtin.len_ #[t] o.type #[a.eval x]).run P w'=.ok (.int .i64 n) w'->(execOp a.eval o).run P w'=.ok (.value (.int .i64 n)) w':=fun x t U V n w' C=>by
  subst U V;simp[execOp,J,resolve,invoke,builtin,C]
 split at h
 .rename_i c _ _ _ ha m;obtain⟨x,rfl,d⟩:=j _ _ _ ha;obtain⟨t,rfl,z⟩:=j _ _ _ m;have m:=hT.of z;have q:=QX E x;rw[d]at q;obtain⟨e,Q⟩:=q.strV;refine .mk (h Q) (.p (.int _ _)) fun w' _ _=>done x t rfl rfl _ w' ?_;simp[Builtin.len_,run_underlying m,e,goInt,Qv]
 .rename_i es _ _ _ _ ha m;obtain⟨x,rfl,d⟩:=j _ _ _ ha;obtain⟨t,rfl,z⟩:=j _ _ _ m;have m:=hT.of z;have q:=QX E x;rw[d]at q;generalize e:a.eval x=v at q;cases q with
  | p q=>cases q with
    | nilsl=>
      refine .mk (h (by simp)) (.p (.int _ _)) fun w' _ _=>done x t rfl rfl _ w' ?_;simp[Builtin.len_,run_underlying m,e,goInt]
    | slz b=>
      refine .mk (h (by simp)) (.p (.int _ _)) fun w' _ _=>done x t rfl rfl _ w' ?_;simp[Builtin.len_,run_underlying m,e,goInt]
    | sl _ b off cap sz cells u Y F g R Q hrr=>
      refine .mk (h (x5y F g)) (.p (.int _ _)) fun w' _ _=>done x t rfl rfl _ w' ?_;simp[Builtin.len_,run_underlying m,e,goInt]
 .rename_i _ _ _ _ ha m;obtain⟨x,rfl,d⟩:=j _ _ _ ha;obtain⟨t,rfl,z⟩:=j _ _ _ m;have m:=hT.of z;have q:=QX E x;rw[d]at q;generalize e:a.eval x=v at q;cases q with
  | p q=>cases q with
    | nils=>
      refine .mk h (.p (.int _ _)) fun w' _ _=>done x t rfl rfl 0 w' ?_;simp[Builtin.len_,run_underlying m,e,goInt]
 .rename_i k off len _ _ _ _ ha m;obtain⟨x,rfl,d⟩:=j _ _ _ ha;obtain⟨t,rfl,z⟩:=j _ _ _ m;have m:=hT.of z;have q:=QX E x;rw[d]at q;generalize e:a.eval x=v at q;split at h<;>first|exact h.elim|skip
  rotate_left 1
  .cases q with
   | hdn _ D=>
     refine .mk h (.p (.int _ _)) fun w' _ _=>done x t rfl rfl _ w' ?_;simp[Builtin.len_,run_underlying m,e,goInt]
   | hd _ _ _ L oo D I ho=>
     refine .mk h (.p (.int _ _)) fun w' _ _=>done x t rfl rfl _ w' ?_;simp[Builtin.len_,run_underlying m,e,goInt]
  rename_i e' sz es Z;cases q with
  | hdn _ D=>
    refine .mk (h (by simp)) (.p (.int _ _)) fun w' _ _=>done x t rfl rfl _ w' ?_;simp[Builtin.len_,run_underlying m,e,goInt]
  | hd _ _ _ L oo D I ho=>
    have g:L.cap<=maxLen:=by
     rcases hH.chunks k _ (QG Z)with O|⟨i',vs,G,_,_,_,_,hm,_⟩
     .rw [D]at O;cases O.1
     .rw [D]at G;cases G;exact hm
    refine .mk (h (by omega)) (.p (.int _ _)) fun w' _ _=>done x t rfl rfl _ w' ?_;simp[Builtin.len_,run_underlying m,e,goInt]
 .rename_i k ra len _ _ _ _ ha m;obtain⟨x,rfl,d⟩:=j _ _ _ ha;obtain⟨t,rfl,z⟩:=j _ _ _ m;have m:=hT.of z;have q:=QX E x;rw[d]at q;generalize e:a.eval x=v at q;cases q with
  | ext _ _ L _ D hd=>
    rcases hd with⟨_,rfl,rfl⟩|⟨b,c,Y,I,rfl⟩
    .refine .mk h (.p (.int _ _)) fun w' _ _=>done x t rfl rfl 0 w' ?_;simp[Builtin.len_,run_underlying m,e,goInt]
    .refine .mk h (.p (.int _ _)) fun w' _ _=>done x t rfl rfl _ w' ?_;simp[Builtin.len_,run_underlying m,e,goInt]
 .exact h.ok σ β a w E hH
end
section
variable {P:Program}{T:Tab}{hr:Bool}{σ:Mem}{β:Lab}{a:Act}{w:World}{o:Oper}{K:LV->Prop}{s:St}
def RepC(σ:Mem)(β:Lab)(ls:List LV)(vs:List Value):Prop:=
 vs.length=ls.length/\∀(j:Nat)(l:LV),ls[j]?=some l->∃u:Value,vs[j]?=some u/\RepL σ β l u
theorem RepC.append{u x:List LV}{y:List Value}(q:RepC σ β u v1)(r:RepC σ β x y):RepC σ β (u++x) (v1++y):=by
 refine⟨by simp[q.1,r.1],fun j l m=>?_⟩;rw[x7e]at m⊢;rw[q.1];split at m
 .rename_i i;simp only[i,if_true];exact q.2 j l m
 .rename_i i;simp only[i,x9g];exact r.2 _ l m
theorem RepC.take{r:List LV}(q:RepC σ β r v1)(n:Nat):RepC σ β (r.take n) (v1.take n):=by
 refine⟨by simp[q.1],fun j l i=>?_⟩;rw[x5s]at i⊢;split at i
 .rename_i m;simp only[m,if_true];exact q.2 j l i
 .cases i
theorem RepC.drop{q:List LV}(i:RepC σ β q v1)(n:Nat):RepC σ β (q.drop n) (v1.drop n):=by
 refine⟨by simp[i.1],fun j l m=>?_⟩;rw[x5o]at m⊢;exact i.2 _ l m
theorem RepC.mkAgg{ls:List LV}{vs:List Value}(h:RepC σ β ls vs):RepL σ β (mkAgg ls) (.agg vs.toArray):=by
 have i:∀(j:Nat),∃u:Value,∀(l:LV),ls[j]?=some l->vs[j]?=some u/\RepL σ β l u:=fun j=>by
  cases m:ls[j]?with
  |none=>exact⟨undef,fun l h=>by cases h⟩
  |some l=>obtain⟨u,r,x⟩:=h.2 j l m;exact⟨u,fun l' h=>by cases h;exact⟨r,x⟩⟩
 obtain⟨u,q⟩ : ∃u:Nat->Value,∀(j:Nat)(l:LV),ls[j]?=some l->vs[j]?=some (u j)/\RepL σ β l (u j):=⟨fun j=>(i j).choose,fun j=>(i j).choose_spec⟩;exact RepL.mkAgg u (by simpa using h.1) (fun j l m=>by simpa using(q j l m).1) fun j l m=>(q j l m).2
def BG{l:LV}(h:RepL σ β l v){ls:List LV}(i:WA l=some ls):RepC σ β ls v.cells.toList:=by
 have one:∀{l:LV},RepL σ β l v->l.one=true->RepC σ β [l] v.cells.toList:=fun {l} h u=>by
  have n:=h.oneCell u;have:v.cells=#[v]:=by cases v<;>first|rfl|simp[Value.oneCell']at n
  rw[this];refine⟨rfl,fun j l' m=>?_⟩;cases j with
  |zero=>simp at m;subst m;exact⟨v,rfl,h⟩
  |succ j=>simp at m
 cases l with
 | p c=>
   cases c with
   | agg cs=>
     simp only[WA,x7c]at i;subst i;obtain⟨vs,rfl,r,n⟩:=q8m h;exact⟨by simpa[Value.cells]using r,fun j l m=>by simpa[Value.cells]using n j l m⟩
   |any=>simp[WA,LV.one,AV.one]at i
   |und=>simp[WA,LV.one,AV.one]at i
   | raw x=>
     cases x with
     |pointer q=>simp[WA,LV.one,AV.one]at i;subst i;exact one h rfl
     |_=>simp[WA,LV.one,AV.one]at i
   |tup _=>simp[WA,LV.one,AV.one]at i
   |_=>simp[WA,LV.one,AV.one]at i;subst i;exact one h rfl
 | agg cs=>
   simp only[WA,x7c]at i;subst i;obtain⟨vs,rfl,r,n⟩:=x2y h;exact⟨by simpa[Value.cells]using r,fun j l m=>by simpa[Value.cells]using n j l m⟩
 |tup _=>simp[WA,LV.one]at i
 |ptr _ _=>simp[WA,LV.one]at i;subst i;exact one h rfl
 |hd _ _ _=>simp[WA,LV.one]at i;subst i;exact one h rfl
 |ext _ _=>simp[WA,LV.one]at i;subst i;exact one h rfl
def q6z(vs:List Value):∀(k:Nat)(off:Nat)(cells:Array Value),off+k+vs.length<=cells.size->
  ((vs.zipIdx k).foldl (fun cs (x:Value×Nat)=>cs.setIfInBounds (off+x.2) x.1) cells).toList=cells.toList.take (off+k)++vs++cells.toList.drop (off+k+vs.length):=by
 induction vs with
 |nil=>intro k off cells h;simp
 | cons v r i=>
   intro k off cells h;simp only[List.zipIdx_cons,x7v];rw[i (k+1) off _ (by simp at h⊢;omega)];have:=list_seg_step cells.toList (off+k) v r (by simpa[x8j,z0p,Nat.add_left_comm]using h);simpa[Array.toList_setIfInBounds,x8j]using this
theorem Wp{place placeL:Nat->Option (Nat×Nat)}(f:∀i x,placeL i=some x->place i=some x):∀(ps:List (Nat×LV))(qs:List (Nat×Value))(ls:List LV)(vs:Array Value)(out:List LV),
  ps.map (·.1)=qs.map (·.1)->(∀(j:Nat)(x:Nat×LV)(y:Nat×Value),ps[j]?=some x->qs[j]?=some y->RepL σ β x.2 y.2)->RepC σ β ls vs.toList->Sz placeL ls ps=some out->
  ∃cs,Instr.fill place vs qs=some cs/\RepC σ β out cs.toList
 | [],[],ls,vs,out,_,_,hr,h=>by
   simp only[Sz,x7c]at h;subst h;exact⟨vs,rfl,hr⟩
 |[],_::_,_,_,_,h,_,_,_=>by simp at h
 |_::_,[],_,_,_,h,_,_,_=>by simp at h
 | (i,l)::ps,(i',v)::qs,ls,vs,out,z,hrep,hr,h=>by
   simp only[x4o,List.cons.injEq]at z;obtain⟨rfl,z⟩:=z;simp only[Sz]at h;split at h
   .cases h
   rename_i off size d;split at h
   .cases h
   rename_i E e;have A:=hrep 0 (i,l) (i,v) rfl rfl;have m:=BG A e;cases u:(E.length==size&&ble (off+size) ls.length)with
   |false=>simp[u]at h
   | true=>
     simp only[u,x4s]at h;simp only[x4n,x8u,z0z]at u;obtain⟨b,g⟩:=u;have q:v.cells.size=size:=by rw[<-b,<-m.1];simp
     have n:off+v.cells.size<=vs.size:=by
      have:=hr.1;simp at this;omega
     have D:=q6z v.cells.toList 0 off vs (by simpa using n);have r:v.cells.zipIdx.foldl (fun cs (x:Value×Nat)=>cs.setIfInBounds (off+x.2) x.1) vs=(v.cells.toList.zipIdx 0).foldl (fun cs (x:Value×Nat)=>cs.setIfInBounds (off+x.2) x.1) vs:=by
      rw[<-Array.foldl_toList];simp
     obtain⟨cs,c,p⟩:=Wp f ps qs _ (v.cells.zipIdx.foldl (fun cs (x:Value×Nat)=>cs.setIfInBounds (off+x.2) x.1) vs) out z (fun j x y B C=>hrep (j+1) x y (by simpa using B) (by simpa using C)) (by
      rw[r,D];have:v.cells.toList.length=size:=by simpa using q
      simp only[x8d,this];exact((hr.take off).append m).append (hr.drop (off+size))) h
     refine⟨cs,?_,p⟩;simp only[Instr.fill,f i _ d];rw[if_neg]
     .exact c
     .simp [q];have:=hr.1;simp at this;omega
def SV(hT:TabOK P T)(fs:Array Field)(w':World)(h:∀f∈fs,∃i,T.get f.type=some i):
  ((fs.mapM fun f=>do pure (f.offset,<-sizeOf f.type):Sem (Array (Nat×Nat))).run P w')=.ok (fs.map fun f=>(f.offset,((T.get f.type).map (·.size)).getD 0)) w':=by
 have key:∀(l:List Field),(∀f∈l,∃i,T.get f.type=some i)->
   ((l.mapM fun f=>do pure (f.offset,<-sizeOf f.type):Sem (List (Nat×Nat))).run P w')=.ok (l.map fun f=>(f.offset,((T.get f.type).map (·.size)).getD 0)) w':=by
  intro l;induction l with
  |nil=>intro _;rfl
  | cons f r p=>
    intro n;obtain⟨i,m⟩:=n f (by simp);have:=(hT _ _ m).sizeOf w';simp only[List.mapM_cons,Sem.run_bind,this,Result.andThen_ok,Sem.run_pure,p fun f j=>n f (by simp[j]),x4o,m,x7t,x5b]
 rw[Array.mapM_eq_mapM_toList];simp only[Sem.run_map];rw[key fs.toList fun f j=>h f (by simpa using j)];simp only[Result.andThen_ok];congr 1;apply ext';simp
def En(hT:TabOK P T){parts:Array (Nat×Operand)}(A:o.op=.build t parts)(h:HL P T hr s o K)(Y:∀i,RepL σ β (getS s.sl i) (a.tmps.getD i undef)):Snd P hr σ β a w o K:=by
 simp only[HL,A]at h;split at h<;>first|exact h.elim|skip
 rename_i i R;split at h<;>first|exact h.elim|skip
 rename_i z Z;obtain⟨u,h⟩:=h;split at h<;>first|exact h.elim|skip
 rename_i cs D;have L:=q8m (β:=β) (.p (Z▸Rep.ofV σ i.zero));obtain⟨vs,O,V,Q⟩:=L;have G:RepC σ β (z.map .p) vs.toList:=⟨by simpa using V,fun j l U=>by simpa using Q j l U⟩;have d:∀(j:Nat)(x:Nat×LV)(y:Nat×Value),(parts.toList.map fun x=>(x.1,QD s.sl x.2))[j]?=some x->(parts.toList.map fun x=>(x.1,a.eval x.2))[j]?=some y->RepL σ β x.2 y.2:=fun j x y r F=>by
  rw[x4q]at r F;cases M:parts.toList[j]?with
  |none=>rw[M]at r;cases r
  |some q=>rw[M]at r F;cases r;cases F;exact QX Y _
 have c:=hT _ _ R;cases g:i.desc with
 | struct fs=>
   have C:∀f∈fs,∃i,T.get f.type=some i:=fun f I=>by
    simp only[g,Wb,x6w]at u;exact Option.isSome_iff_exists.1 (u f (by simpa using I))
   obtain⟨out,b,B⟩:=Wp (σ:=σ) (β:=β) (place:=((fs.map fun f=>(f.offset,((T.get f.type).map (·.size)).getD 0))[·]?)) (placeL:=Yk T i.desc) (fun j x r=>by
    simp only[Yk,g]at r;split at r
    .rename_i f I;simp only[x9d]at r;obtain⟨y,F,rfl⟩:=r;simp[I,F]
    .cases r) _ (parts.toList.map fun x=>(x.1,a.eval x.2)) _ vs cs (by simp) d G D
   refine .mk h B.mkAgg fun w' _ _=>?_;have J:=SV (P:=P) (T:=T) hT fs w' C;have m:Instr.fill ((fs.map fun f=>(f.offset,((T.get f.type).map (·.size)).getD 0))[·]?) vs ((parts.map fun(i,x)=>(i,a.eval x)).toList)=some out:=by
    rw[<-b];congr 1;simp
   simp only[execOp,A,Instr.build,Sem.run_bind,c.zeroValue,Result.andThen_ok,c.runUnder,g,J,O,Value.cells,m,Sem.run_pure]
 | array n e=>
   simp only[g,Wb]at u;obtain⟨H,E⟩:=Option.isSome_iff_exists.1 u;obtain⟨out,b,B⟩:=Wp (σ:=σ) (β:=β) (place:=fun i=>some (i*H.size,H.size)) (placeL:=Yk T i.desc) (fun j x r=>by
    simp only[Yk,g,E,x7t]at r;exact r) _ (parts.toList.map fun x=>(x.1,a.eval x.2)) _ vs cs (by simp) d G D
   refine .mk h B.mkAgg fun w' _ _=>?_;have m:Instr.fill (fun i=>some (i*H.size,H.size)) vs ((parts.map fun(i,x)=>(i,a.eval x)).toList)=some out:=by
    rw[<-b];congr 1;simp
   simp only[execOp,A,Instr.build,Sem.run_bind,c.zeroValue,Result.andThen_ok,c.runUnder,g,(hT _ _ E).sizeOf,O,Value.cells,m,Sem.run_pure]
 |_=>simp[g,Wb]at u
def PX(hT:TabOK P T)(h:HL P T hr s o K)(n:∀i,RepL σ β (getS s.sl i) (a.tmps.getD i undef))(hH:HRel σ β s.H w):Snd P hr σ β a w o K:=by
 have gen:ValO P hr s o K->Snd P hr σ β a w o K:=fun h=>h.ok σ β a w n hH;cases j:o.op with
 |move x=>simp only[HL,j]at h;exact Tl (.inl j) h n
 |assign x=>simp only[HL,j]at h;exact Tl (.inr j) h n
 |pick c x y=>exact q0m j h n
 |fieldAddr t x f=>exact D4 hT j h n
 |load t x=>exact q0n hT j h n hH
 |nilCheck x=>exact Nf j h n hH
 |binOp op t x y u=>exact Ep hT j h n hH
 |unOp op t x=>exact q0l j h n hH
 |convert s d x=>exact Lr hT j h n hH
 |slice t x l q m=>exact Er hT j h n hH
 |field t x f=>exact Em hT j h n
 |indexAddr t x i=>exact D5 hT j h n hH
 |index t x i=>exact El hT j h n
 |extract x i=>exact Lt j h n
 |build t r=>exact En hT j h n
 |makeFunc p f c=>exact Nh j h n hH
 | call c=>
   obtain⟨callee,args,argTypes⟩:=c;cases callee with
   | builtin b=>
     cases b with
     |len=>exact q5k hT j h n hH
     |_=>simp only[HL,j]at h;exact gen h
   |_=>simp only[HL,j]at h;exact gen h
 |_=>simp only[HL,j]at h;exact gen h
end
def M6:List (Nat×LV)->Nat->LV->List (Nat×LV)
 |[],i,v=>[(i,v)]
 |(j,x)::r,i,v=>bif i==j then(i,v)::r else bif blt i j then(i,v)::(j,x)::r else(j,x)::M6 r i v
def q4i:List (Nat×LV)->Nat->LV->(List (Nat×LV)->Prop)->Prop
 |[],i,v,K=>K [(i,v)]
 |(j,x)::r,i,v,K=>bif i==j then K ((i,v)::r)else bif blt i j then K ((i,v)::(j,x)::r)else q4i r i v fun h=>K ((j,x)::h)
theorem Yf:∀(sl:List (Nat×LV))(i:Nat)(v:LV)(K:List (Nat×LV)->Prop),q4i sl i v K=K (M6 sl i v)
 |[],_,_,_=>rfl
 | (j,x)::r,i,v,K=>by
   simp only[q4i,M6];cases i==j with
   |true=>rfl
   | false=>
     cases blt i j with
     |true=>rfl
     |false=>simp only[x5q,Yf r]
def X9{α:Type}(i j:Nat)(x y:α):(bif i==j then x else y)=if i=j then x else y:=by
 by_cases h:i=j
 .simp [h]
 .have:(i==j)=false:=by simp[h]
  simp[this,h]
theorem F6:∀(sl:List (Nat×LV))(i:Nat)(v:LV)(j:Nat),getS (M6 sl i v) j=if i=j then v else getS sl j
 | [],i,v,j=>by
   simp only[M6,getS];rw[X9]
 | (k,x)::r,i,v,j=>by
   simp only[M6];by_cases l:i=k
   .subst l;simp only[x8k,x4s,getS,X9];by_cases h:i=j<;>simp[h]
   .have:(i==k)=false:=by simp[l]
    simp only[this,x5q];by_cases m:i<k
    .have:blt i k=true:=by simp[blt,Nat.succ_le_of_lt m]
     simp only[this,x4s,getS,X9]
    .have:blt i k=false:=by
      cases n:blt i k with
      |false=>rfl
      |true=>simp[blt]at n;omega
     simp only[this,x5q,getS,F6 r,X9];by_cases h:k=j
     .subst h;simp[l]
     .simp [h]
def Eh{σ:Mem}{β:Lab}{sl:List (Nat×LV)}{a:Act}(h:∀i,RepL σ β (getS sl i) (a.tmps.getD i undef)){d:Nat}(l:d<a.tmps.size){v:LV}{u:Value}(m:RepL σ β v u):
  ∀i,RepL σ β (getS (M6 sl d v) i) ((a.put (some d) u).tmps.getD i undef):=fun i=>by
 rw[F6];by_cases j:d=i
 .subst j;simp[Act.put,l];exact m
 .rw [if_neg j];have:=h i;simpa[Act.put,x7n j]using this
def WY(k:Nat)(s:St):Bool:=blt k 1000&&((s.H.all fun x=> !(x.1==k)&&x.2.free k)&&s.sl.all fun x=>x.2.free k)
def YR{s:St}(h:WY k s=true):k<1000:=by
 simp only[WY,x4n]at h;simpa[blt,Nat.lt_iff_add_one_le]using h.1
def XI{s:St}(h:WY k s=true):(∀j c,(j,c)∈s.H->j≠k/\c.free k=true)/\∀i,(getS s.sl i).free k=true:=by
 simp only[WY,x4n,x6w]at h;replace h:=h.2;refine⟨fun j c m=>?_,fun i=>?_⟩
 .have:=h.1 (j,c) m;simp at this;exact this
 .have:∀(sl:List (Nat×LV)),(∀x∈sl,x.2.free k=true)->(getS sl i).free k=true:=by
   intro sl;induction sl with
   |nil=>intro _;rfl
   | cons x r p=>
     intro l;obtain⟨j,v⟩:=x;simp only[getS];cases j==i with
     |true=>exact l (j,v) (by simp)
     |false=>exact p fun y n=>l y (by simp[n])
  exact this s.sl h.2
def K1{s:St}(h:∀j c,(j,c)∈s.H->j≠k/\c.free k=true):k∉s.H.map (·.1):=by
 intro i;obtain⟨x,l,rfl⟩:=x4y.1 i;exact(h x.1 x.2 l).1 rfl
def Ox{σ:Mem}{β:Lab}{H:Heap}{w:World}(h:HRel σ β H w)(f:k<1000)(O:∀j c,(j,c)∈H->j≠k/\c.free k=true){i:BInfo}(Z:i.blk=w.heap.size)(E:i.subs=[]){o:Obj}{c:Chunk}(U:c.holds σ (β.set k (some i)) (w.alloc o) k):HRel σ (β.set k (some i)) ((k,c)::H) (w.alloc o)/\Later σ β H w σ (β.set k (some i)) ((k,c)::H) (w.alloc o):=by
 have C:k∉H.map (·.1):=fun I=>by
  obtain⟨x,Y,rfl⟩:=x4y.1 I;exact(O x.1 x.2 Y).1 rfl
 have n:∀j∈H.map (·.1),(β.set k (some i)) j=β j:=fun j l=>by
  have:j≠k:=fun e=>C (e▸l);simp[Lab.set,this]
 have D:∀j,1000<=j->j<2000->(β.set k (some i)) j=β j:=fun j M y=>by
  have:j≠k:=by omega
  simp[Lab.set,this]
 have u:∀b,b<w.heap.size->(w.alloc o).heap[b]?=w.heap[b]?:=fun b p=>heap_alloc_old w o b p;have J:(w.alloc o).heap.size=w.heap.size+1:=by
  show(w.heap.push o).size=_;simp
 have r:∀b,i.has b->b=w.heap.size:=fun b p=>by
  rcases p with p|⟨c,p⟩
  .omega
  .rw [E]at p;cases p
 refine⟨⟨fun b c p=>?_,fun j c' l=>?_,?_,fun j l i' m b p=>?_,fun j l G q Q R y g b z d=>?_⟩,Mem.le_refl σ,⟨rfl,rfl,rfl,x4m _,by omega,fun b p _=>u b p⟩,fun b M y=>absurd M y,fun b p=>?_,D⟩
 .obtain ⟨e,L,F⟩:=h.mem b c p;have f:b<w.heap.size:=(x4t.1 F).1;exact⟨e,L,(u b f).trans F⟩
 .rcases x4v.1 l with l|l
  .cases l;exact U
  .have B:=O j c' l;refine(((h.chunks j c' l).mono (Mem.le_refl σ) (w':=w.alloc o) fun i' m b p=>?_)).set _ B.1 B.2;exact u _ (h.apart j (x4y.2 ⟨_,l,rfl⟩) i' m b p).2
 .simp only[x4o,x6q];exact⟨C,h.nodup⟩
 .simp only[x4o,x4v]at l;rcases l with rfl|l
  .simp [Lab.set]at m;subst m;have p:=r b p;refine⟨?_,by omega⟩;cases V:σ b with
   |none=>rfl
   | some c=>
     obtain⟨e,L,F⟩:=h.mem _ c V;have f:=(x4t.1 F).1;omega
  .rw [n j l]at m;have:=h.apart j l i' m b p;exact⟨this.1,by omega⟩
 .simp only[x4o,x4v]at l q;rcases l with rfl|l<;>rcases q with rfl|q
  .rfl
  .simp [Lab.set]at y;rw[n G q]at g;have:=(h.apart G q R g b d).2;subst y;have:=r b z;omega
  .simp [Lab.set]at g;rw[n j l]at y;have:=(h.apart j l Q y b z).2;subst g;have:=r b d;omega
  .rw [n j l]at y;rw[n G q]at g;exact h.inj j l G q Q R y g b z d
 .obtain ⟨j,l,i',m,A⟩:=p;simp only[x4o,x4v]at l;rcases l with rfl|l
  .simp [Lab.set]at m;subst m;have:=r b A;exact .inr (by omega)
  .rw [n j l]at m;exact .inl ⟨j,l,i',m,A⟩
theorem Rel.new{N:Nat}{σ:Mem}{β:Lab}{s:St}{a:Act}{w:World}(h:Rel N σ β s a w)(m:WY k s=true){i:BInfo}(z:i.blk=w.heap.size)(l:i.subs=[]){o:Obj}{c:Chunk}(y:c.holds σ (β.set k (some i)) (w.alloc o) k):Rel N σ (β.set k (some i)) ⟨s.sl,(k,c)::s.H⟩ a (w.alloc o)/\Later σ β s.H w σ (β.set k (some i)) ((k,c)::s.H) (w.alloc o):=by
 obtain⟨q,r⟩:=XI m;obtain⟨u,x⟩:=Ox h.heap (YR m) q z l y;exact⟨⟨h.size,h.defers,fun j=>(h.E j).set _ (r j),u⟩,x⟩
theorem Rel.put{N:Nat}{σ:Mem}{β:Lab}{s:St}{a:Act}{w:World}(h:Rel N σ β s a w){d:Nat}(i:d<N){v:LV}{u:Value}(j:RepL σ β v u):
  Rel N σ β ⟨M6 s.sl d v,s.H⟩ (a.put (some d) u) w:=
 ⟨by simp[Act.put,h.size],h.defers,Eh h.E (by rw[h.size];exact i) j,h.heap⟩
def Oz{σ:Mem}{β:Lab}{H:Heap}{w:World}(h:HRel σ β H w){i:BInfo}(f:k∈H.map (·.1))(z:β k=some i){vs:Array Value}{H':Heap}(hH:H'.map (·.1)=H.map (·.1))(u:∀j c,(j,c)∈H'->j≠k->(j,c)∈H)(r:∀c,(k,c)∈H'->c.holds σ β (w.setRow i.blk vs) k):
  HRel σ β H' (w.setRow i.blk vs)/\Later σ β H w σ β H' (w.setRow i.blk vs):=by
 have x:=h.apart k f i z i.blk i.has_blk;have q:∀b,b≠i.blk->(w.setRow i.blk vs).heap[b]?=w.heap[b]?:=fun b l=>setRow_other w i.blk b vs l;refine⟨⟨fun b c l=>?_,fun j c n=>?_,by rw[hH];exact h.nodup,fun j n i' m b l=>?_,fun j n G d=>h.inj j (hH▸n) G (hH▸d)⟩,Mem.le_refl σ,⟨rfl,rfl,rfl,x4m _,by simp,fun b _ F=>q b fun e=>F ⟨k,f,i,z,.inl e.symm⟩⟩,fun b C D=>absurd C D,fun b l=>?_,fun _ _ _=>rfl⟩
 .have g:b≠i.blk:=fun e=>by rw[e,x.1]at l;cases l
  obtain⟨e,B,E⟩:=h.mem b c l;exact⟨e,B,(q b g).trans E⟩
 .by_cases p:j=k
  .subst p;exact r c n
  .have A:=u j c n p;refine(h.chunks j c A).mono (Mem.le_refl σ) fun i' m b l=>q _ fun e=>p ?_;exact h.inj j (x4y.2 ⟨_,A,rfl⟩) k f i' i m z b l (.inl e.symm)
 .have:=h.apart j (hH▸n) i' m b l;exact⟨this.1,by simpa using this.2⟩
 .obtain ⟨j,n,i',m,y⟩:=l;exact .inl ⟨j,hH▸n,i',m,y⟩
def Le(N:Nat)(s s':St):Prop:=∀σ β a w,Rel N σ β s a w->∃σ' β',Rel N σ' β' s' a w/\Later σ β s.H w σ' β' s'.H w
theorem Le.refl{N:Nat}(s:St):Le N s s:=fun σ β _ _ h=>⟨σ,β,h,Later.refl _ _ _ _⟩
theorem Le.of_eq{N:Nat}{s s':St}(h:s=s'):Le N s s':=h▸Le.refl s
theorem Le.trans{N:Nat}{s s' i:St}(h:Le N s s')(j:Le N s' i):Le N s i:=fun σ β a w hr=>
 let ⟨σ',β',h1,h2⟩:=h σ β a w hr;let ⟨σ'',β'',h3,h4⟩:=j σ' β' a w h1
 ⟨σ'',β'',h3,h2.trans h4⟩
def Cj{N:Nat}{s s':St}(hsl:∀i,getS s'.sl i=getS s.sl i\/getS s'.sl i=.p .any)(hH:s'.H.Sublist s.H):Le N s s':=fun σ β a w h=>
 ⟨σ,β,⟨h.size,h.defers,fun i=>by
   rcases hsl i with e|e
   .rw [e];exact h.E i
   .rw [e];exact .p (.any _),⟨h.heap.mem,fun k c q=>h.heap.chunks k c (hH.subset q),(hH.map _).nodup h.heap.nodup,
    fun k j=>h.heap.apart k ((hH.map _).subset j),fun k j u l=>h.heap.inj k ((hH.map _).subset j) u ((hH.map _).subset l)⟩⟩,
  Mem.le_refl σ,Frm.refl _ _,fun _ m n=>absurd m n,fun b ⟨k,j,r⟩=>.inl ⟨k,(hH.map _).subset j,r⟩,fun _ _ _=>rfl⟩
theorem RepL.hdI{σ:Mem}{β:Lab}{off len:Nat}(h:RepL σ β (.hd k off len) v):
  (β k=none/\off=0/\len=0/\v=.slice none 0 0)\/
  ∃i o,β k=some i/\off+len<=i.cap/\(o=off*i.sz\/(i.cap=off/\0<off))/\v=.slice (some ⟨i.blk,o,none⟩) len (i.cap-off):=by
 cases h with
 |hdn _ j=>exact .inl ⟨j,rfl,rfl,rfl⟩
 |hd _ _ _ i o j l m=>exact .inr ⟨i,o,j,l,m,rfl⟩
structure RepE(σ:Mem)(sz:Nat)(es:List AV)(vs:List Value):Prop where
 len:vs.length=es.length*sz
 size:∀(i:Nat)(e:AV),es[i]?=some e->e.cells.length=sz
 rep:∀(i:Nat)(e:AV)(j:Nat)(c:AV),es[i]?=some e->e.cells[j]?=some c->∃u:Value,vs[i*sz+j]?=some u/\Rep σ c u
def AQ{i j n sz:Nat}(h:i<n)(l:j<sz):i*sz+j<n*sz:=by
 have:(i+1)*sz<=n*sz:=x5l _ h;rw[x6r]at this;omega
theorem RepE.nil(σ:Mem)(sz:Nat):RepE σ sz [] []:=⟨by simp,by simp,by simp⟩
theorem RepE.append{σ:Mem}{sz:Nat}{es xs:List AV}{y:List Value}(m:RepE σ sz es v1)(r:RepE σ sz xs y):RepE σ sz (es++xs) (v1++y):=by
 refine⟨by simp[m.len,r.len,x6r],fun i e l=>?_,fun i e j c l x=>?_⟩
 .rw [x7e]at l;split at l
  .exact m.size i e l
  .exact r.size _ e l
 .rw [x7e]at l;split at l
  .rename_i b;obtain⟨u,q,hr⟩:=m.rep i e j c l x;have:i*sz+j<v1.length:=(x4u.1 q).1;exact⟨u,by rw[x5i this];exact q,hr⟩
  .rename_i z;obtain⟨u,q,hr⟩:=r.rep _ e j c l x;refine⟨u,?_,hr⟩;have:v1.length<=i*sz+j:=by
    rw[m.len];have:es.length*sz<=i*sz:=x5l _ (by omega);omega
   rw[x5t this,m.len];rw[show i*sz+j-es.length*sz=(i-es.length)*sz+j by rw[Nat.sub_mul];have:es.length*sz<=i*sz:=x5l _ (by omega);omega];exact q
def WD{σ:Mem}{β:Lab}{w:World}{e:TypeId}{sz:Nat}{es:List AV}:
  (Chunk.own e sz es).holds σ β w k↔(β k=none/\es=[])\/∃i vs,β k=some i/\i.sz=sz/\w.heap[i.blk]?=some (.cells vs e (0,0))/\
    vs.size=i.cap*sz/\es.length<=i.cap/\i.cap<=maxLen/\RepE σ sz es (vs.toList.take (es.length*sz)):=by
 constructor
 .rintro (h|⟨i,vs,y,z,b,p,q,d,f⟩)
  .exact .inl h
  .have B:es.length*sz<=vs.size:=by rw[p];exact x5l _ q
   refine .inr ⟨i,vs,y,z,b,p,q,d,by simp;omega,fun m x l=>(f m x l).1,fun m x j c l r=>?_⟩;obtain⟨u,n,hr⟩:=(f m x l).2 j c r;refine⟨u,?_,hr⟩;have C:m<es.length:=(x4u.1 l).1;have g:j<sz:=by rw[<-(f m x l).1];exact(x4u.1 r).1
   rw[x5s,if_pos (AQ C g)];simpa using n
 .rintro (h|⟨i,vs,y,z,b,p,q,d,A⟩)
  .exact .inl h
  .refine .inr ⟨i,vs,y,z,b,p,q,d,fun m x l=>⟨A.size m x l,fun j c r=>?_⟩⟩;obtain⟨u,n,hr⟩:=A.rep m x j c l r;rw[x5s]at n;split at n
   .exact ⟨u,by simpa using n,hr⟩
   .cases n
def LV.kill(k:Nat)(l:LV):LV:=bif l.free k then l else .p .any
theorem LV.kill_free(k:Nat)(l:LV):(l.kill k).free k=true:=by
 unfold LV.kill;cases h:l.free k
 .rfl
 .exact h
theorem RepL.kill{σ:Mem}{β:Lab}{l:LV}{v:Value}(h:RepL σ β l v)(k:Nat):RepL σ β (l.kill k) v:=by
 unfold LV.kill;cases l.free k
 .exact .p (.any _)
 .exact h
def Chunk.kill(k:Nat):Chunk->Chunk
 |.obj e cs=>.obj e (cs.map (LV.kill k))
 |.own e sz es=>.own e sz es
 |.ext d=>.ext d
theorem Chunk.kill_free(k:Nat)(c:Chunk):(c.kill k).free k=true:=by
 cases c with
 | obj e cs=>
   simp only[Chunk.kill,Chunk.free];induction cs with
   |nil=>rfl
   |cons l r i=>simp only[x4o,LV.free.freeAll,LV.kill_free,Bool.true_and];exact i
 |own e sz es=>rfl
 |ext d=>rfl
theorem Chunk.holds.kill{σ:Mem}{β:Lab}{w:World}{j:Nat}{c:Chunk}(h:c.holds σ β w j)(k:Nat):(c.kill k).holds σ β w j:=by
 cases c with
 | obj e cs=>
   obtain⟨i,vs,b,z,f,y⟩:=h;refine⟨i,vs,b,z,by simpa using f,fun j l m=>?_⟩;rw[x4q]at m;cases q:cs[j]?with
   |none=>rw[q]at m;cases m
   | some l'=>
     rw[q]at m;cases m;obtain⟨u,r,x⟩:=y j l' q;exact⟨u,r,x.kill k⟩
 |own e sz es=>exact h
 |ext d=>exact h
def P6{σ:Mem}{β:Lab}{H:Heap}{w w':World}(h:HRel σ β H w)(hpk:k<1000\/2000<=k)(F:k∈H.map (·.1))(g:Frm (fun b=>∃i,β k=some i/\i.has b) w w'){i':Option BInfo}(D:∀i,i'=some i->∀b,i.has b->b<w'.heap.size/\((∃f,β k=some f/\f.has b)\/w.heap.size<=b)){H':Heap}(hH:H'.map (·.1)=H.map (·.1))(O:∀j c,(j,c)∈H'->j≠k->c.free k=true/\c.holds σ β w j)(M:∀c,(k,c)∈H'->c.holds σ (β.set k i') w' k):
  HRel σ (β.set k i') H' w'/\Later σ β H w σ (β.set k i') H' w':=by
 have m:∀j,j≠k->(β.set k i') j=β j:=fun j q=>by simp[Lab.set,q]
 have n:(β.set k i') k=i':=by simp[Lab.set]
 have R:∀j,1000<=j->j<2000->(β.set k i') j=β j:=fun j h0 u=>m j (by omega);have hfr:∀b,σ b≠none->w'.heap[b]?=w.heap[b]?:=fun b p=>by
  cases V:σ b with
  |none=>exact absurd V p
  | some c=>
    obtain⟨e,Y,J⟩:=h.mem b c V;refine g.block b (x4t.1 J).1 ?_;rintro⟨i,x,hib⟩;exact p (h.apart k F i x b hib).1
 have Q:∀j∈H.map (·.1),j≠k->∀i,β j=some i->∀b,i.has b->w'.heap[b]?=w.heap[b]?:=fun j q E i x b p=>by
  refine g.block _ (h.apart j q i x b p).2 ?_;rintro⟨f,hi0,Z⟩;exact E (h.inj j q k F i f x hi0 b p Z)
 refine⟨⟨fun b c p=>?_,fun j c q=>?_,by rw[hH];exact h.nodup,fun j q i x b p=>?_,fun j q U L A C u y b z d=>?_⟩,Mem.le_refl σ,
  ⟨g.os,g.tape,g.output,g.drawn,g.size,fun b p hn=>g.block b p fun⟨i,x,Z⟩=>hn ⟨k,F,i,x,Z⟩⟩,fun b h0 u=>absurd h0 u,fun b p=>?_,R⟩
 .obtain ⟨e,Y,J⟩:=h.mem b c p;exact⟨e,Y,(hfr b (by simp[p])).trans J⟩
 .by_cases l:j=k
  .subst l;exact M c q
  .obtain ⟨u,y⟩:=O j c q l;have hjm:j∈H.map (·.1):=hH▸x4y.2 ⟨_,q,rfl⟩;exact(y.mono (Mem.le_refl σ) (Q j hjm l)).set _ l u
 .by_cases l:j=k
  .subst l;rw[n]at x;obtain⟨u,y⟩:=D i x b p;refine⟨?_,u⟩;rcases y with⟨f,B,I⟩|y
   .exact (h.apart _ F f B b I).1
   .cases V:σ b with
    |none=>rfl
    | some c=>
      obtain⟨e,Y,J⟩:=h.mem _ c V;have:=(x4t.1 J).1;omega
  .rw [m j l]at x;have:=h.apart j (hH▸q) i x b p;exact⟨this.1,x7o this.2 g.size⟩
 .have G:∀j∈H.map (·.1),j≠k->∀A C,β j=some A->i'=some C->∀b,A.has b->¬C.has b:=fun j q E A C u y b z d=>by
   obtain⟨_,B⟩:=D C y b d;rcases B with⟨f,I,h5⟩|B
   .exact E (h.inj j q k F A f u I b z h5)
   .have:=(h.apart j q A u b z).2;omega
  by_cases l:j=k<;>by_cases r:U=k
  .rw [l,r]
  .subst l;rw[n]at u;rw[m U r]at y;exact absurd z (G U (hH▸L) r C A y u b d)
  .subst r;rw[n]at y;rw[m j l]at u;exact absurd d (G j (hH▸q) l A C u y b z)
  .rw [m j l]at u;rw[m U r]at y;exact h.inj j (hH▸q) U (hH▸L) A C u y b z d
 .obtain ⟨j,q,i,x,p⟩:=p;by_cases l:j=k
  .subst l;rw[n]at x;rcases(D i x b p).2 with⟨f,B,I⟩|B
   .exact .inl ⟨j,F,f,B,I⟩
   .exact .inr B
  .rw [m j l]at x;exact .inl ⟨j,hH▸q,i,x,p⟩
def S4{P:Program}{σ:Mem}{β:Lab}{w:World}{e:TypeId}{n:TyI}{es xs:List AV}(t ty:TypeId)(ht:P.underlying t=some (.slice e))(hie:TyOK P e n)(hz:n.zero.cells.size=n.size)(M:(Chunk.own e n.size es).holds σ β w k)(hv:RepL σ β (.hd k 0 es.length) v){x:Value}{l:List Value}(hx:(x=.slice none 0 0/\l=[])\/∃R c,x=.slice (some R) xs.length c/\∀(j:Nat)(u:Value),l[j]?=some u->w.cell? (R.add j)=some u)(m:RepE σ n.size xs l)(h1:∀u∈l,u.oneCell'=true)(h63:es.length+xs.length<=maxLen)(g:(es.length+xs.length)*n.bytes<=140737488355328)(hpos:0<n.size)(hlt:∀i,β k=some i->∀b,i.has b->b<w.heap.size):
  ∃Q w' i',(Builtin.append_ #[t,t] ty #[v,x]).run P w=.ok Q w'/\Frm (fun b=>∃i,β k=some i/\i.has b) w w'/\
   (∀i,i'=some i->∀b,i.has b->b<w'.heap.size/\((∃O,β k=some O/\O.has b)\/w.heap.size<=b))/\
   (Chunk.own e n.size (es++xs)).holds σ (β.set k i') w' k/\RepL σ (β.set k i') (.hd k 0 (es.length+xs.length)) Q:=by
 obtain⟨Z,B,z,hfb,hfz⟩:=hie.getInfo;have F:∀i':Option BInfo,(β.set k i') k=i':=fun i'=>by simp[Lab.set]
 have L:(es.length+xs.length:Nat)<=(9223372036854775807:Int):=by simp only[maxLen]at h63;omega
 have H:xs=[]->∃Q w' i',(Result.ok v w:Result Value)=.ok Q w'/\Frm (fun b=>∃i,β k=some i/\i.has b) w w'/\
   (∀i,i'=some i->∀b,i.has b->b<w'.heap.size/\((∃O,β k=some O/\O.has b)\/w.heap.size<=b))/\
   (Chunk.own e n.size (es++xs)).holds σ (β.set k i') w' k/\RepL σ (β.set k i') (.hd k 0 (es.length+xs.length)) Q:=fun hx0=>by
  subst hx0;have f:β.set k (β k)=β:=by funext j;unfold Lab.set;split<;>simp_all
  refine⟨v,w,β k,rfl,Frm.refl _ _,fun i C b f=>⟨hlt i C b f,.inl ⟨i,C,f⟩⟩,?_,?_⟩
  .rw [f];simpa using M
  .rw [f];simpa using hv
 have D:∀(old:Nat)(p:List Value),RepE σ n.size es p->old<es.length+xs.length->
   Frm (fun b=>∃i,β k=some i/\i.has b) w (w.drew.alloc (.cells (p.toArray++l.toArray++Builtin.zeroCells n.zero.cells (grownCap w (es.length+xs.length) old e-(es.length+xs.length))) e))/\
   ∃i',(∀i,i'=some i->∀b,i.has b->b<(w.drew.alloc (.cells (p.toArray++l.toArray++Builtin.zeroCells n.zero.cells (grownCap w (es.length+xs.length) old e-(es.length+xs.length))) e)).heap.size/\((∃O,β k=some O/\O.has b)\/w.heap.size<=b))/\
   (Chunk.own e n.size (es++xs)).holds σ (β.set k i') (w.drew.alloc (.cells (p.toArray++l.toArray++Builtin.zeroCells n.zero.cells (grownCap w (es.length+xs.length) old e-(es.length+xs.length))) e)) k/\
   RepL σ (β.set k i') (.hd k 0 (es.length+xs.length)) (.slice (some ⟨w.heap.size,0,none⟩) (es.length+xs.length) (grownCap w (es.length+xs.length) old e)):=fun old p U ho=>by
  have Y:=grownCap_ge w (es.length+xs.length) old e;have A:=grownCap_le_maxLen w (es.length+xs.length) old e h63;generalize grownCap w (es.length+xs.length) old e=cap at Y A⊢;have hsz:(w.drew.alloc (.cells (p.toArray++l.toArray++Builtin.zeroCells n.zero.cells (cap-(es.length+xs.length))) e)).heap.size=w.heap.size+1:=by
   show(w.heap.push _).size=_;simp
  have y:=U.append m;have hnew:(w.drew.alloc (.cells (p.toArray++l.toArray++Builtin.zeroCells n.zero.cells (cap-(es.length+xs.length))) e)).heap[w.heap.size]?=some (.cells (p.toArray++l.toArray++Builtin.zeroCells n.zero.cells (cap-(es.length+xs.length))) e (0,0)):=heap_alloc_new w.drew _;refine⟨⟨rfl,rfl,rfl,Nat.le_succ _,by omega,fun b f _=>heap_alloc_old w.drew _ b f⟩,some ⟨w.heap.size,cap,n.size,[],A⟩,fun i C b f=>?_,WD.2 (.inr ⟨⟨w.heap.size,cap,n.size,[],A⟩,_,F _,rfl,hnew,?_,by simpa using Y,A,?_⟩),?_⟩
  .cases C;rw[MX]at f;exact⟨by omega,.inr (by omega)⟩
  .simp only[Array.size_append,x8y,size_zeroCells,hz,U.len,m.len];rw[<-x6r,<-x6r];congr 1;omega
  .rw [show(p.toArray++l.toArray++Builtin.zeroCells n.zero.cells (cap-(es.length+xs.length))).toList.take ((es++xs).length*n.size)=p++l by
    rw[<-y.len];simp only[Array.toList_append];exact List.take_left]
   exact y
  .have:=z1v (σ:=σ) (β:=β.set k (some ⟨w.heap.size,cap,n.size,[],A⟩)) k 0 (es.length+xs.length) ⟨w.heap.size,cap,n.size,[],A⟩ 0 (F _) (by simpa using Y) (.inl (by simp));simpa using this
 rcases WD.1 M with⟨hb0,rfl⟩|⟨i,vs,C,hisz,hh,hn,hlen,E,U⟩
 ·-- a nil row
  have hvn:v=.slice none 0 0:=by
   rcases hv.hdI with⟨_,_,_,h⟩|⟨i,_,J,_⟩
   .exact h
   .rw [hb0]at J;cases J
  subst hvn;rcases hx with⟨rfl,rfl⟩|⟨R,c,rfl,q⟩
  .have G:xs=[]:=by
    have:=m.len;simp only[x8c]at this;rcases Nat.mul_eq_zero.1 this.symm with h|h
    .exact x6k h
    .omega
   obtain⟨Q,w',i',V,d⟩:=H G;cases V;exact⟨_,_,i',run_append_owned_none w 0 t ty e Z n.size ht B _ 0 [] (World.ownsRow_nil w 0 e n.size),d⟩
  .by_cases hm:xs.length=0
   .have G:xs=[]:=x6k hm;subst G;have hnn:l=[]:=x6k (by simpa using m.len);subst hnn;obtain⟨Q,w',i',V,d⟩:=H rfl;cases V;refine⟨_,_,i',?_,d⟩;simp[Builtin.append_,run_underlying ht,sizeOf,typeInfo,B,Builtin.lenOf,Builtin.firstCells,loadCells,loadCellsFrom]
   .have hr:=run_append_nil (P:=P) w t ty e Z n.zero ht B hfz R xs.length c l (by rw[z];exact m.len) q (by omega) (by simp at L;omega) (by rw[hfb];simp at g;omega);obtain⟨h2,i',h3,h4,h5⟩:=D 0 [] (RepE.nil σ n.size) (by omega);simp only[x8c,x6i,Array.empty_append]at h2 h3 h4 h5⊢;exact⟨_,_,i',hr,h2,h3,h4,h5⟩
 .have hvs:∃cap,v=.slice (some ⟨i.blk,0,none⟩) es.length i.cap/\cap=i.cap:=by
   rcases hv.hdI with⟨J,_⟩|⟨i',o,J,hl,ho,h⟩
   .rw [C]at J;cases J
   .rw [C]at J;cases J;rcases ho with ho|ho
    .exact ⟨i.cap,by rw[h,ho];simp,rfl⟩
    .omega
  obtain⟨_,hv',_⟩:=hvs;subst hv';rcases hx with⟨rfl,rfl⟩|⟨R,c,rfl,q⟩
  .have G:xs=[]:=by
    have:=m.len;simp only[x8c]at this;rcases Nat.mul_eq_zero.1 this.symm with h|h
    .exact x6k h
    .omega
   obtain⟨Q,w',i',V,d⟩:=H G;cases V;refine⟨_,_,i',run_append_owned_none w 0 t ty e Z n.size ht B _ es.length (vs.toList.take (es.length*n.size)) ⟨U.len,.inr ⟨i.blk,i.cap,vs,rfl,x4j _,hh,hlen,E,hn,rfl⟩⟩,d⟩
  .by_cases r:es.length+xs.length<=i.cap
   .have I:es.length*Z.size+l.length<=vs.size:=by rw[z,m.len,hn,<-x6r];exact x5l _ r
    have hr:=run_append_room (P:=P) w t ty e Z ht B i.blk es.length i.cap vs hh R xs.length c l (by rw[z];exact m.len) q h1 r I;have f:β.set k (some i)=β:=by funext j;unfold Lab.set;split<;>simp_all
    refine⟨_,_,some i,hr,⟨rfl,rfl,rfl,x4m _,by simp,fun b _ hnb=>setRow_other w i.blk b _ fun V=>hnb ⟨i,C,.inl V.symm⟩⟩,fun i1 h1 b f=>?_,?_,?_⟩
    .cases h1;exact⟨by simpa using hlt i C b f,.inl ⟨i,C,f⟩⟩
    .rw [f];refine WD.2 (.inr ⟨i,_,C,hisz,setRow_heap w i.blk vs _ e _ hh,?_,by simpa using r,E,?_⟩)
     .rw [z];simp only[x8y,x3o,x5z,x6c,x6g];rw[z]at I;omega
     .rw [z];have y:=U.append m;rw[show(vs.toList.take (es.length*n.size)++l++vs.toList.drop (es.length*n.size+l.length)).toArray.toList.take ((es++xs).length*n.size)=vs.toList.take (es.length*n.size)++l by
       rw[<-y.len];simp only[List.take_left]]
      exact y
    .rw [f];have:=z1v (σ:=σ) (β:=β) k 0 (es.length+xs.length) i 0 C (by simpa using r) (.inl (by simp));simpa using this
   .have holds:∀(j:Nat)(u:Value),(vs.toList.take (es.length*n.size))[j]?=some u->w.cell? ((⟨i.blk,0,none⟩:Addr).add j)=some u:=fun j u hu=>by
     rw[JF];rw[x5s]at hu;split at hu
     .simp [World.cell?,hh];simpa using hu
     .cases hu
    have hr:=run_append_grow (P:=P) w t ty e Z n.zero ht B hfz ⟨i.blk,0,none⟩ es.length i.cap (vs.toList.take (es.length*n.size)) (by rw[z];exact U.len) holds R xs.length c l (by rw[z];exact m.len) q (by omega) L (by rw[hfb];exact growslice_fits (by omega) g);obtain⟨h2,i',h3,h4,h5⟩:=D i.cap _ U (by omega);exact⟨_,_,i',hr,h2,h3,h4,h5⟩
structure OpK(P:Program)(N:Nat)(s:St)(o:Oper)(K:St->Prop):Prop where
 ok:∀(σ:Mem)(β:Lab)(a:Act)(w:World),Rel N σ β s a w->∀Q,o.wp P a w (fun a' w'=>∃σ' β' s',K s'/\Rel N σ' β' s' a' w'/\Later σ β s.H w σ' β' s'.H w') Q
structure CallK(P:Program)(N:Nat)(g:FuncId)(args:List LV)(dst:Option Nat)(s:St)(K:St->Prop):Prop where
 ok:∀(σ:Mem)(β:Lab)(a:Act)(w:World),Rel N σ β s a w->∀vals:Array Value,vals.size=args.length->(∀(j:Nat)(l:LV),args[j]?=some l->RepL σ β l (vals.getD j undef))->
  (∀w',(callFunc g vals).run P w'=.ok (.enter g vals) w')/\
  Calls P g vals w fun e w'=>∃u σ' β' s',e=.returned u/\K s'/\Rel N σ' β' s' (a.put dst u) w'/\Later σ β s.H w σ' β' s'.H w'
def JB(l:LV)(K:LV->Prop):Prop:=
 match l with
 |.p a=>K (.p a)
 |.ptr k o=>K (.ptr k o)
 |.hd k o n=>K (.hd k o n)
 |.agg vs=>K (.agg vs)
 |.tup vs=>K (.tup vs)
 |.ext k d=>K (.ext k d)
def XB(l:LV)(K:LV->Prop):JB l K=K l:=by cases l<;>rfl
def FI:List LV->(List LV->Prop)->Prop
 |[],K=>K []
 |l::r,K=>JB l fun l=>FI r fun r=>K (l::r)
theorem VU:∀(l:List LV)(K:List LV->Prop),FI l K=K l
 |[],_=>rfl
 |l::r,K=>by simp only[FI,XB,VU r]
def HT:Nat->Nat->St->(Nat->Prop)->Prop
 |0,_,_,_=>False
 |f+1,k,s,K=>bif WY k s then K k else HT f (k+1) s K
theorem YX:∀{f k:Nat}{s:St}{K:Nat->Prop},HT f k s K->∃j,WY j s=true/\K j
 |0,_,_,_,h=>h.elim
 | f+1,k,s,K,h=>by
   simp only[HT]at h;cases i:WY k s with
   |true=>rw[i]at h;exact⟨k,i,h⟩
   |false=>rw[i]at h;exact YX h
def setD(N:Nat)(sl:List (Nat×LV))(d:Option Nat)(v:LV)(K:List (Nat×LV)->Prop):Prop:=
 match d with
 |none=>K sl
 |some d=>bif blt d N then q4i sl d v K else False
def Ej{N:Nat}{sl:List (Nat×LV)}{d:Option Nat}{v:LV}{K:List (Nat×LV)->Prop}(h:setD N sl d v K):
  (d=none/\K sl)\/∃i,d=some i/\i<N/\K (M6 sl i v):=by
 cases d with
 |none=>exact .inl ⟨rfl,h⟩
 | some d=>
   simp only[setD]at h;cases j:blt d N with
   | true=>
     rw[j,x4s,Yf]at h;exact .inr ⟨d,rfl,by simpa[blt,Nat.lt_iff_add_one_le]using j,h⟩
   |false=>rw[j]at h;exact h.elim
theorem Rel.setD{N:Nat}{σ:Mem}{β:Lab}{s:St}{a:Act}{w:World}(h:Rel N σ β s a w){d:Option Nat}{v:LV}{u:Value}(l:RepL σ β v u){K:List (Nat×LV)->Prop}(i:setD N s.sl d v K):
  ∃sl,K sl/\Rel N σ β ⟨sl,s.H⟩ (a.put d u) w:=by
 rcases Ej i with⟨rfl,i⟩|⟨m,rfl,j,i⟩
 .exact ⟨_,i,h⟩
 .exact ⟨_,i,h.put j l⟩
def Wv:Heap->Nat->Chunk->(Heap->Prop)->Prop
 |[],_,_,_=>False
 |(j,c)::r,k,d,K=>bif j==k then K ((k,d)::r)else Wv r k d fun r=>K ((j,c)::r)
def Y5:List (Nat×LV)->Nat->(List (Nat×LV)->Prop)->Prop
 |[],_,K=>K []
 |(j,l)::r,k,K=>JB (l.kill k) fun l=>Y5 r k fun r=>K ((j,l)::r)
def DK:Heap->Nat->Chunk->(Heap->Prop)->Prop
 |[],_,_,K=>K []
 | (j,c)::r,k,d,K=>bif j==k then DK r k d fun r=>K ((k,d)::r)else
   match c with
   |.obj e cs=>FI (cs.map (LV.kill k)) fun cs=>DK r k d fun r=>K ((j,.obj e cs)::r)
   |.own e sz es=>DK r k d fun r=>K ((j,.own e sz es)::r)
   |.ext x=>DK r k d fun r=>K ((j,.ext x)::r)
inductive AppK(es xs:List AV)(n m sz bytes:Nat)(K:Prop):Prop
 |mk (hn:n=es.length) (hm:m=xs.length) (hb:(n+m)*bytes<=140737488355328) (h63:n+m<=maxLen) (hx:∀x∈xs,x.cells.length=sz/\x.cells.all AV.one=true) (hK:K)
inductive BsK(es:List AV)(sz:Nat)(out:List LV)(Kp Ko:Prop):Prop
 |pure (hx:∀x∈es,x.cells.length=sz) (ho:out=(es.flatMap AV.cells).map .p) (hK:Kp)
 |own (hx:∀x∈es,x.cells.length=sz) (ho:out=(es.flatMap AV.cells).map .p) (hK:Ko)
inductive MkK(l:Int)(bytes:Nat)(K:Nat->Prop):Prop
 |mk (n:Nat) (hn:l=n) (hb:bytes*n<=140737488355328) (h63:n<=maxLen) (hK:K n)
inductive StOwn(es:List AV)(sz off:Nat)(vs:List AV)(K:List AV->Prop):Prop
 |mk (m j:Nat) (e e':AV) (ho:off=m*sz+j) (he:es[m]?=some e) (hfit:j+vs.length<=sz) (he':e'.cells=e.cells.take j++vs++e.cells.drop (j+vs.length)) (hK:K (es.set m e'))
def isV:Op->Bool
 |.move _ |.assign _ |.pick .. |.fieldAddr .. |.load .. |.nilCheck _ |.binOp .. |.unOp .. |.convert .. |.slice .. |.field .. |.indexAddr .. |.index .. |.extract .. |.build .. |.makeFunc .. => true
 |.call {callee:=.builtin .len,..} |.call {callee:=.builtin .cap,..}=>true
 |_=>false
def q6y(k:Nat)(A:Prop):Prop:=bif ble 1000 k then bif blt k 2000 then False else A else A
def N1{A:Prop}(h:q6y k A):(k<1000\/2000<=k)/\A:=by
 unfold q6y at h;cases j:ble 1000 k with
 | false=>
   rw[j,x5q]at h;exact⟨.inl (by rw[<-z0m,z0z]at j;omega),h⟩
 | true=>
   rw[j,x4s]at h;cases i:blt k 2000 with
   |true=>rw[i]at h;exact h.elim
   | false=>
     rw[i,x5q]at h;exact⟨.inr (by rw[<-z0m]at i;simp only[blt,z0z]at i;omega),h⟩
def Hp(N:Nat)(s:St)(d:Option Nat)(k:Nat)(e sz n:Nat)(es xs:List AV)(m bytes:Nat)(K:St->Prop):Prop:=
 AppK es xs n m sz bytes (q6y k <|Y5 s.sl k fun sl=>DK s.H k (.own e sz (es++xs)) fun H=>setD N sl d (.hd k 0 (n+m)) fun sl=>K ⟨sl,H⟩)
def q2l(sl:List (Nat×LV))(H:Heap)(x:Operand)(K:List AV->Nat->Prop):Prop:=
 match QD sl x with
 |.p (.sl xs)=>K xs xs.length
 |.p .nils=>K [] 0
 | .hd k2 0 m=>match getH H k2 with
   |some (.own _ _ xs)=>K xs m
   |_=>False
 |_=>False
def opW(P:Program)(T:Tab)(N:Nat)(s:St)(o:Oper)(K:St->Prop):Prop:=
 match o.op with
 | .alloc e=>match T.get e with
   | some i=>match WA (.p (AV.ofV i.zero))with
     |some cs=>FI cs fun cs=>HT 60 0 s fun k=>setD N s.sl o.dst (.ptr k 0) fun sl=>K ⟨sl,(k,.obj e cs)::s.H⟩
     |none=>False
   |none=>False
 | .box e x=>match WA (QD s.sl x)with
   |some cs=>FI cs fun cs=>HT 60 0 s fun k=>setD N s.sl o.dst (.ptr k 0) fun sl=>K ⟨sl,(k,.obj e cs)::s.H⟩
   |none=>False
 | .store t x v=>match QD s.sl x,WA (QD s.sl v),T.get t,o.dst with
   | .ptr k off,some vs,some i,none=>match getH s.H k with
     |some (.obj e cs)=>(vs.all LV.one&&(vs.length==i.size&&ble (off+vs.length) cs.length))=true/\
        FI (cs.take off++vs++cs.drop (off+vs.length)) fun cs=>Wv s.H k (.obj e cs) fun H=>K ⟨s.sl,H⟩
     | some (.own e sz es)=>match Bq vs with
       |some j=>(j.all AV.one&&j.length==i.size)=true/\StOwn es sz off j fun es=>Wv s.H k (.own e sz es) fun H=>K ⟨s.sl,H⟩
       |none=>False
     |some (.ext _)=>OpK P N s o K
     |none=>False
   |_,_,_,_=>OpK P N s o K
 | .buildSlice t n parts=>match T.get t with
   | some {desc:=.slice e,..}=>match T.get e with
     | some h=>match Bq (parts.toList.map fun x=>QD s.sl x.2),Sz (fun i=>some (i*h.size,h.size)) (List.replicate (n*h.size) (.p .any)) (parts.toList.map fun x=>(x.1,QD s.sl x.2))with
       |some es,some out=>(n*h.size<=16777216/\0<h.size)/\BsK es h.size out
          (es.length=n/\setD N s.sl o.dst (.p (.sl es)) fun sl=>K ⟨sl,s.H⟩)
          (es.length=n/\HT 60 0 s fun k=>setD N s.sl o.dst (.hd k 0 n) fun sl=>K ⟨sl,(k,.own e h.size es)::s.H⟩)
       |_,_=>OpK P N s o K
     |none=>OpK P N s o K
   |_=>OpK P N s o K
 | .makeSlice t l c=>match T.get t,QD s.sl l,QD s.sl c with
   | some {desc:=.slice e,..},.p (.int _ l),.p (.int _ c)=>match T.get e with
     |some h=>(l=c/\h.zero.cells.size=h.size/\0<h.size)/\MkK l h.bytes fun n=>HT 60 0 s fun k=>setD N s.sl o.dst (.hd k 0 n) fun sl=>K ⟨sl,(k,.own e h.size (List.replicate n (AV.ofV h.zero)))::s.H⟩
     |none=>False
   |_,_,_=>OpK P N s o K
 | .call { callee:=.builtin .append,args,argTypes}=>match args.toList,argTypes.toList with
   | [x,y],[t,t']=>match T.get t with
     | some {desc:=.slice e,..}=>match T.get e with
       | some h=>(t=t'/\h.zero.cells.size=h.size/\0<h.size)/\match QD s.sl x with
         | .hd k 0 n=>match getH s.H k with
           |some (.own e' sz es)=>(e'=e/\sz=h.size)/\q2l s.sl s.H y fun xs m=>Hp N s o.dst k e h.size n es xs m h.bytes K
           |_=>False
         |.p .nils=>HT 60 0 s fun k=>q2l s.sl s.H y fun xs m=>Hp N ⟨s.sl,(k,.own e h.size [])::s.H⟩ o.dst k e h.size 0 [] xs m h.bytes K
         |_=>OpK P N s o K
       |none=>False
     |_=>OpK P N s o K
   |_,_=>OpK P N s o K
 | .call {callee:=.value f,args,..}=>match QD s.sl f with
   |.p (.fn g caps)=>FI (args.toList.map (QD s.sl)++caps.map .p) fun ls=>CallK P N g ls o.dst s K
   |_=>OpK P N s o K
 |_=>OpK P N s o K
section
variable {P:Program}{T:Tab}{N:Nat}{σ:Mem}{β:Lab}{a:Act}{w:World}{o:Oper}{K:St->Prop}{s:St}
def Mp(P:Program)(N:Nat)(σ:Mem)(β:Lab)(a:Act)(w:World)(s:St)(o:Oper)(K:St->Prop):Prop:=
 ∀Q,o.wp P a w (fun h w'=>∃σ' β' s',K s'/\Rel N σ' β' s' h w'/\Later σ β s.H w σ' β' s'.H w') Q
theorem Uu{k:Nat}:∀{ls:List LV},LV.free.freeAll k ls=true ↔ ∀l∈ls,l.free k=true
 |[]=>by simp[LV.free.freeAll]
 |l::r=>by simp[LV.free.freeAll,Uu (ls:=r)]
theorem RepC.set{ls:List LV}{vs:List Value}(h:RepC σ β ls vs){k:Nat}(i:Option BInfo)(q:LV.free.freeAll k ls=true):RepC σ (β.set k i) ls vs:=
 ⟨h.1,fun j l m=>let ⟨u,h1,h2⟩:=h.2 j l m;⟨u,h1,h2.set i (XH q j l m)⟩⟩
def Kb(h:WY k s=true)(x:Operand):(QD s.sl x).free k=true:=by
 cases x with
 |tmp t=>exact(XI h).2 t
 |_=>rfl
def Vo{l:LV}{ls:List LV}(h:WA l=some ls)(i:l.free k=true):LV.free.freeAll k ls=true:=by
 have one:∀{l:LV},l.free k=true->(bif l.one then some [l]else none)=some ls->LV.free.freeAll k ls=true:=fun {l} i h=>by
  cases m:l.one with
  |false=>rw[m]at h;cases h
  |true=>rw[m]at h;cases h;simp[LV.free.freeAll,i]
 cases l with
 | p a=>cases a with
   | agg cs=>
     simp only[WA,x7c]at h;subst h;rw[Uu];intro l q;obtain⟨c,_,rfl⟩:=x4y.1 q;rfl
   |raw x=>exact one (l:=.p (.raw x)) rfl h
   |_=>first|(simp[WA,LV.one,AV.one]at h;done)|(simp[WA,LV.one,AV.one]at h;subst h;rfl)
 |agg cs=>simp only[WA,x7c]at h;subst h;exact i
 |ptr j o=>exact one i h
 |hd j o n=>exact one i h
 |ext j d=>exact one i h
 |tup vs=>exact one i h
def XT{w':World}{j:Act->World->Prop}{Q:Exit->Act->World->Prop}(i:(execOp a.eval o).run P w=.ok (.value v) w')(h:j (a.put o.dst v) w'):o.wp P a w j Q:=by
 unfold Oper.wp;rw[i];exact h
def PV{w':World}{j:Act->World->Prop}{Q:Exit->Act->World->Prop}(i:(execOp a.eval o).run P w=.ok .skip w')(h:j (a.put o.dst undef) w'):o.wp P a w j Q:=by
 unfold Oper.wp;rw[i];exact h
def Tn(e:TypeId){cs:List LV}{vs:Array Value}(n:(execOp a.eval o).run P w=.ok (.value (.pointer (some ⟨w.heap.size,0,none⟩))) (w.alloc (.cells vs e)))(hr:Rel N σ β s a w)(r:RepC σ β cs vs.toList)(c:∀k,WY k s=true->LV.free.freeAll k cs=true)(h:HT 60 0 s fun k=>setD N s.sl o.dst (.ptr k 0) fun sl=>K ⟨sl,(k,.obj e cs)::s.H⟩):Mp P N σ β a w s o K:=by
 intro Q;obtain⟨k,x,h⟩:=YX h;have p:=r.set (k:=k) (some ⟨w.heap.size,0,0,[],x4j _⟩) (c k x);have i:(Chunk.obj e cs).holds σ (β.set k (some ⟨w.heap.size,0,0,[],x4j _⟩)) (w.alloc (.cells vs e)) k:=
  ⟨⟨w.heap.size,0,0,[],x4j _⟩,vs,by simp[Lab.set],heap_alloc_new w _,by simpa using r.1,fun j l d=>by
    obtain⟨u,y,z⟩:=p.2 j l d;exact⟨u,by simpa using y,z⟩⟩
 obtain⟨q,f⟩:=hr.new x rfl rfl i;obtain⟨sl,b,m⟩:=q.setD (RepL.ptr k 0 ⟨w.heap.size,0,0,[],x4j _⟩ (by simp[Lab.set])) h;exact XT n ⟨σ,_,_,b,m,f⟩
def Tm(e:TypeId){sz n:Nat}{es:List AV}{vs:Array Value}(p:(execOp a.eval o).run P w=.ok (.value (.slice (some ⟨w.heap.size,0,none⟩) n n)) (w.alloc (.cells vs e)))(hr:Rel N σ β s a w)(u:es.length=n)(q:vs.size=n*sz)(x:RepE σ sz es vs.toList)(i:n<=maxLen)(h:HT 60 0 s fun k=>setD N s.sl o.dst (.hd k 0 n) fun sl=>K ⟨sl,(k,.own e sz es)::s.H⟩):Mp P N σ β a w s o K:=by
 intro Q;obtain⟨k,z,h⟩:=YX h;have j:(Chunk.own e sz es).holds σ (β.set k (some ⟨w.heap.size,n,sz,[],i⟩)) (w.alloc (.cells vs e)) k:=by
  refine WD.2 (.inr ⟨⟨w.heap.size,n,sz,[],i⟩,vs,by simp[Lab.set],rfl,heap_alloc_new w _,q,by simp[u],i,?_⟩);have:vs.toList.take (es.length*sz)=vs.toList:=x4b (by simp[q,u]);rw[this];exact x
 obtain⟨r,b⟩:=hr.new z rfl rfl j;have l:=z1v (σ:=σ) (β:=β.set k (some ⟨w.heap.size,n,sz,[],i⟩)) k 0 n ⟨w.heap.size,n,sz,[],i⟩ 0 (by simp[Lab.set]) (by simp) (.inl (by simp));simp only[Nat.sub_zero]at l;obtain⟨sl,y,m⟩:=r.setD l h;exact XT p ⟨σ,_,_,y,m,b⟩
def SF(hT:TabOK P T){e:TypeId}(l:o.op=.alloc e)(h:opW P T N s o K)(hr:Rel N σ β s a w):Mp P N σ β a w s o K:=by
 simp only[opW,l]at h;split at h<;>first|exact h.elim|skip
 rename_i i n;split at h<;>first|exact h.elim|skip
 rename_i cs j;rw[VU]at h;have m:=hT _ _ n;refine Tn e (vs:=i.zero.cells) ?_ hr (BG (β:=β) (.p (Rep.ofV σ i.zero)) j) (fun k q=>Vo j rfl) h;simp[execOp,l,Instr.alloc,m.zeroValue,newVar,newRow]
def q0p{e:TypeId}{x:Operand}(j:o.op=.box e x)(h:opW P T N s o K)(hr:Rel N σ β s a w):Mp P N σ β a w s o K:=by
 simp only[opW,j]at h;split at h<;>first|exact h.elim|skip
 rename_i cs i;rw[VU]at h;refine Tn e (vs:=(a.eval x).cells) ?_ hr (BG (QX hr.E x) i) (fun k l=>Vo i (Kb l x)) h;simp[execOp,j,Instr.box,newVar,newRow]
end
section
variable {P:Program}{T:Tab}{N:Nat}{σ:Mem}{β:Lab}{a:Act}{w:World}{o:Oper}{K:St->Prop}{s:St}
theorem VO:∀{H:Heap}{k:Nat}{c:Chunk}{K:Heap->Prop},(H.map (·.1)).Nodup->Wv H k c K->
  ∃H',K H'/\H'.map (·.1)=H.map (·.1)/\(∀j d,(j,d)∈H'->j≠k->(j,d)∈H)/\∀d,(k,d)∈H'->d=c
 |[],_,_,_,_,h=>h.elim
 | (j,d)::r,k,c,K,hn,h=>by
   simp only[Wv]at h;simp only[x4o,x6q]at hn;by_cases n:j=k
   .subst n;simp only[x8k,x4s]at h;refine⟨_,h,rfl,fun i e l m=>?_,fun e l=>?_⟩
    .rcases x4v.1 l with l|l
     .cases l;exact absurd rfl m
     .exact x4x _ l
    .rcases x4v.1 l with l|l
     .cases l;rfl
     .exact absurd (x4y.2 ⟨_,l,rfl⟩) hn.1
   .have:(j==k)=false:=by simp[n]
    rw[this,x5q]at h;obtain⟨H',x,p,q,u⟩:=VO hn.2 h;refine⟨_,x,by simp[p],fun i e l m=>?_,fun e l=>?_⟩
    .rcases x4v.1 l with l|l
     .cases l;simp
     .exact x4x _ (q i e l m)
    .rcases x4v.1 l with l|l
     .cases l;exact absurd rfl n
     .exact u e l
def QP{H:Heap}{c:Chunk}(h:getH H k=some c):k∈H.map (·.1):=x4y.2 ⟨_,QG h,rfl⟩
def Gp{x v:Operand}(r:o.op=.store t x v)(j:o.dst=none)(hr:Rel N σ β s a w){off:Nat}{i:BInfo}(G:β k=some i)(J:a.eval x=.pointer (some ⟨i.blk,off,none⟩)){e:TypeId}{vs:Array Value}(F:w.heap[i.blk]?=some (.cells vs e (0,0))){n:Nat}(y:∀w,(sizeOf t).run P w=.ok n w)(q:(a.eval v).cells.size=n)(l:∀u∈(a.eval v).cells.toList,u.oneCell'=true)(z:off+n<=vs.size)(I:k∈s.H.map (·.1)){c:Chunk}(D:c.holds σ β (w.setRow i.blk (vs.toList.take off++(a.eval v).cells.toList++vs.toList.drop (off+n)).toArray) k)(h:Wv s.H k c fun H=>K ⟨s.sl,H⟩):Mp P N σ β a w s o K:=by
 intro Q;obtain⟨H',C,b,f,g⟩:=VO hr.heap.nodup h;have m:(execOp a.eval o).run P w=.ok .skip (w.setRow i.blk (vs.toList.take off++(a.eval v).cells.toList++vs.toList.drop (off+n)).toArray):=by
  have p:=run_storeCells_at P i.blk off e (a.eval v).cells.toList 0 vs w F (by simp;omega) l;simp only[x8d,x6g,q]at p;simp[execOp,r,Instr.storeAt,Instr.sureAddr,J,storeVar,y,q,p]
 obtain⟨A,B⟩:=Oz hr.heap I G b f (fun d j=>g d j▸D);refine PV m ⟨σ,β,⟨s.sl,H'⟩,C,⟨?_,?_,?_,A⟩,B⟩
 .rw [j];exact hr.size
 .rw [j];exact hr.defers
 .rw [j];exact hr.E
theorem RepC.one{ls:List LV}{vs:List Value}(h:RepC σ β ls vs)(q:ls.all LV.one=true):∀u∈vs,u.oneCell'=true:=fun u x=>by
 obtain⟨j,m,rfl⟩:=x6u.1 x;have i:j<ls.length:=by rw[<-h.1];exact m
 obtain⟨y,l,r⟩:=h.2 j ls[j] (by simp[i]);rw[x3e m]at l;cases l;exact r.oneCell (x6w.1 q _ (x4h i))
def SD(hT:TabOK P T){x v:Operand}(O:o.op=.store t x v)(h:opW P T N s o K)(hr:Rel N σ β s a w):Mp P N σ β a w s o K:=by
 simp only[opW,O]at h;split at h
 .rename_i k off vs i hx hv ht hd;have B:=QX hr.E x;rw[hx]at B;have A:=BG (QX hr.E v) hv;have z:(a.eval v).cells.size=vs.length:=by have:=A.1;simpa using this
  split at h<;>first|exact h.elim|skip
  .rename_i e cs hg;obtain⟨Y,h⟩:=h;rw[VU]at h;simp only[x4n,x8u,z0z]at Y;obtain⟨H,I,hb3⟩:=Y;obtain⟨U,b,f,hh,hn,J⟩:=hr.heap.chunks k _ (QG hg);generalize Q:a.eval x=xv at B;cases B with
   | ptr _ _ bi' M=>
     rw[f]at M;cases M;refine Gp (n:=vs.length) O hd hr f Q hh (fun w=>by rw[I];exact(hT _ _ ht).sizeOf w) z (A.one H) (by omega) (QP hg) ?_ h;have Z:RepC σ β cs b.toList:=⟨by simpa using hn,fun j l hj=>by simpa using J j l hj⟩;have F:=((Z.take off).append A).append (Z.drop (off+vs.length));exact⟨U,_,f,setRow_heap w U.blk b _ e _ hh,by simpa using F.1,fun j l hj=>by simpa using F.2 j l hj⟩
  .rename_i e sz es hg;split at h<;>first|exact h.elim|skip
   rename_i G hus;have hvs:=GY hus;subst hvs;obtain⟨Y,m,j,el,el',ho,he,hfit,he',h⟩:=h;simp only[x4n,x8u]at Y;obtain⟨H,I⟩:=Y;simp only[x3a]at z;generalize Q:a.eval x=xv at B;cases B with
   | ptr _ _ U M=>
     rcases hr.heap.chunks k _ (QG hg)with h0|⟨bi',b,f,hsz,hh,hn,hle,hmax,J⟩
     .rw [M]at h0;cases h0.1
     .rw [M]at f;cases f;have hmlt:m<es.length:=(x4u.1 he).1;have hoff:off+G.length<=b.size:=by
       have:(m+1)*sz<=U.cap*sz:=x5l _ (by omega);rw[x6r]at this;omega
      refine Gp (n:=G.length) O hd hr M Q hh (fun w=>by rw[I];exact(hT _ _ ht).sizeOf w) z (A.one ?_) hoff (QP hg) ?_ h
      .simp only[List.all_map];exact H
      .refine .inr ⟨U,_,M,hsz,setRow_heap w U.blk b _ e _ hh,?_,by simpa using hle,hmax,fun q y R=>?_⟩
       .simp only[x8y,x3o,x5z,x6c,x6g,z];omega
       .have d:=J m el he;have g:el'.cells.length=sz:=by
         rw[he'];simp only[x3o,x5z,x6c,d.1];omega
        have D:∀(p:Nat),(C:List Value)->C=(b.toList.take off++(a.eval v).cells.toList++b.toList.drop (off+G.length))->
          (p<off->C[p]?=b[p]?)/\(off<=p->p<off+G.length->C[p]?=(a.eval v).cells[p-off]?)/\(off+G.length<=p->C[p]?=b[p]?):=fun p C hvs'=>by
         subst hvs';refine⟨fun V=>?_,fun V h2=>?_,fun V=>?_⟩
         .rw [x4r,x5i (by simp;omega),x5s,if_pos V];simp
         .rw [x4r,x5t (by simp;omega),x5i (by simp;omega)];simp only[x5z,x6g,x7f];congr 1;omega
         .rw [x5t (by simp;omega)];simp only[x3o,x5z,x6g,x5o,x7f,z];congr 1;omega
        by_cases hq:m=q
        .subst hq;rw[x5f hmlt]at R;cases R;refine⟨g,fun n c r=>?_⟩;have hnlt:n<sz:=by rw[<-g];exact(x4u.1 r).1
         obtain⟨c1,c2,c3⟩:=D (m*sz+n) _ rfl;simp only[x9n];rw[he']at r;by_cases V:n<j
         .rw [c1 (by omega)];rw[x4r,x5i (by simp[d.1];omega),x5s,if_pos V]at r;exact d.2 n c r
         .by_cases h2:n<j+G.length
          .rw [c2 (by omega) (by omega)];rw[x4r,x5t (by simp[d.1];omega),x5i (by simp[d.1];omega)]at r;have L:min j el.cells.length=j:=by rw[d.1];omega
           simp only[x5z,L]at r;obtain⟨u,h3,h4⟩:=A.2 (n-j) (.p c) (by simp[r]);refine⟨u,?_,?_⟩
           .rw [show m*sz+n-off=n-j by omega];simpa using h3
           .cases h4 with
            |p h=>exact h
          .rw [c3 (by omega)];rw[x5t (by simp[d.1];omega)]at r;have L:min j el.cells.length=j:=by rw[d.1];omega
           simp only[x3o,x5z,L,x5o]at r;rw[show j+G.length+(n-(j+G.length))=n by omega]at r;exact d.2 n c r
        .rw [x5p hq]at R;refine⟨(J q y R).1,fun n c r=>?_⟩;have hnlt:n<sz:=by rw[<-(J q y R).1];exact(x4u.1 r).1
         obtain⟨c1,c2,c3⟩:=D (q*sz+n) _ rfl;simp only[x9n];rcases Nat.lt_or_gt_of_ne hq with hlt|hgt
         .have:(m+1)*sz<=q*sz:=x5l _ hlt;rw[x6r]at this;rw[c3 (by omega)];exact(J q y R).2 n c r
         .have:(q+1)*sz<=m*sz:=x5l _ hgt;rw[x6r]at this;rw[c1 (by omega)];exact(J q y R).2 n c r
  .exact h.ok σ β a w hr
 .exact h.ok σ β a w hr
end
def x8l:type_of%@StOwn.mk:=@StOwn.mk
def x8a:type_of%@MkK.mk:=@MkK.mk
def x9p:type_of%@BsK.own:=@BsK.own
end Go.Ab
