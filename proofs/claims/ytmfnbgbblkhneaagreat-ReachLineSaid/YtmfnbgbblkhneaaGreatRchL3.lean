/- The reckoning 'valW' is sound: slices, indexes, literals; and the whole. Conditions: the table of types is the program's own. -/
import Derived.Laws.OwnMore
import Derived.Test.YtmfnbgbblkhneaaGreatRchL2
set_option linter.unusedSimpArgs false
set_option linter.unusedVariables false
set_option maxRecDepth 100000
set_option maxHeartbeats 16000000
open Array (ext')
open Nat (ble blt)
namespace Go.Ab
variable {k:Nat}{t:TypeId}{v:Value}{v1:List Value}
section
variable {P:Program}{T:Tab}{hr:Bool}{σ:Mem}{β:Lab}{a:Act}{w:World}{o:Oper}{K:LV->Prop}{s:St}
theorem HV(hs:∀i,RepL σ β (getS s.sl i) (a.tmps.getD i undef)){x:Option Operand}{l:Option Int}(h:Pz s.sl x=some l):
  (l=none/\x=none)\/∃y k n,x=some y/\l=some n/\a.eval y=.int k n:=by
 cases x with
 |none=>simp[Pz]at h;exact .inl ⟨h.symm,rfl⟩
 | some y=>
   simp only[Pz,x7r]at h;obtain⟨n,h1,rfl⟩:=h;have hy:=QZ hs y;refine .inr ⟨y,?_⟩;generalize he:QM s.sl y=e at h1 hy;cases e with
   | p c=>cases c with
     | int k m=>
       simp[RR]at h1;subst h1;exact⟨k,m,rfl,rfl,hy.int⟩
     |_=>simp[RR]at h1
   |_=>simp[RR]at h1
theorem JU{isSlice:Bool}{len cap:Nat}{lo hi:Option Operand}{l h:Option Int}(hl:(l=none/\lo=none)\/∃y k n,lo=some y/\l=some n/\a.eval y=.int k n)(hh:(h=none/\hi=none)\/∃y k n,hi=some y/\h=some n/\a.eval y=.int k n){l' h':Nat}(el:l.getD 0=l')(eh:h.getD len=h')(h1:l'<=h')(h2:h'<=cap)(w':World):
  (Instr.sliceBounds isSlice len cap (lo.map a.eval) (hi.map a.eval) none).run P w'=.ok (l',h',cap) w':=by
 have key:∀(k:IntKind)(n:Int)(m y:Nat)(code:BoundsCode),n=m->m<=y->(Instr.sliceBound (.int k n) y code).run P w'=.ok m w':=fun k n m y code hn hm=>by
  subst hn;simp[Instr.sliceBound,asIntOf,hm]
 rcases hl with⟨rfl,rfl⟩|⟨y,k,n,rfl,rfl,hy⟩<;>rcases hh with⟨rfl,rfl⟩|⟨y',k',n',rfl,rfl,hy'⟩<;>simp only[Option.getD_none,x5q]at el eh
 ·have:l'=0:=by omega
  have:len=h':=by omega
  subst_vars
  simp[Instr.sliceBounds]
 ·have:l'=0:=by omega
  subst this;simp[Instr.sliceBounds,hy',key k' n' h' cap _ eh h2]
 ·have:len=h':=by omega
  subst this;simp[Instr.sliceBounds,hy,key k n l' len _ el h1]
 ·simp[Instr.sliceBounds,hy,hy',key k' n' h' cap _ eh h2,key k n l' h' _ el h1]
theorem Ef(hT:TabOK P T){x:Operand}{lo hi mx:Option Operand}(hop:o.op=.slice t x lo hi mx)(h:HC P T hr s o K)(hs:∀i,RepL σ β (getS s.sl i) (a.tmps.getD i undef))(hH:HRel σ β s.H w):Snd P hr σ β a w o K:=by
 cases mx with
 |some m=>simp only[HC,hop]at h;exact h.ok σ β a w hs hH
 |none=>
 simp only[HC,hop]at h;have hx:=QZ hs x;split at h
 ·rename_i _ _ _ l h' ht el eh;have ht:=hT.of ht;have hl:=HV hs el;have hh:=HV hs eh;split at h<;>first|exact h.elim|skip
  rename_i c he;rw[he]at hx;obtain⟨hv,hc⟩:=hx.strV;obtain⟨l',h'',h1,h2,h3,h4,hK⟩:=h;refine .mk hK (.p (.str _ (by simp;omega))) fun w' _ _=>?_;have hb:=JU (P:=P) (isSlice:=false) (len:=c.length) (cap:=c.length) hl hh h1 h2 h3 h4 w';have hsz:(⟨c.toArray⟩:ByteArray).size=c.length:=Qm c;simp only[execOp,hop,Instr.sliceAt,Instr.slice,Sem.run_bind,run_underlying ht,Result.andThen_ok,hv,Option.map_none,Option.isSome_none,Bool.false_eq_true,if_false,hsz,hb,Sem.run_pure];congr 3;apply ByteArray.ext;simp[ByteArray.data_extract,List.drop_take]
 ·rename_i e _ _ _ l h' ht el eh;have ht:=hT.of ht;have hl:=HV hs el;have hh:=HV hs eh;split at h
  ·rename_i ie es hie he;rw[he]at hx;obtain⟨hsz,l',h'',h1,h2,h3,h4,hK⟩:=h;have hsize:=(hT _ _ hie).sizeOf;generalize hv:a.eval x=v at hx;cases hx with
   | p hx=>cases hx with
     | nilsl=>
       simp at h4;have:l'=0:=by omega
       subst h4 this;refine .mk hK (.p (by simpa using .nilsl)) fun w' _ _=>?_;have hb:=JU (P:=P) (isSlice:=true) (len:=0) (cap:=0) hl hh h1 h2 h3 (x3g _) w';simp[execOp,hop,Instr.sliceAt,Instr.slice,run_underlying ht,hv,hb,hsize]
     | slz b=>
       simp at h4;have:l'=0:=by omega
       subst h4 this;refine .mk hK (.p (by simpa using .slz b)) fun w' _ _=>?_;have hb:=JU (P:=P) (isSlice:=true) (len:=0) (cap:=0) hl hh h1 h2 h3 (x3g _) w';simp[execOp,hop,Instr.sliceAt,Instr.slice,run_underlying ht,hv,hb,hsize]
     | sl _ b off cap sz cells u hb hcap hmax hsz' hc hrr=>
       have hb':=JU (P:=P) (isSlice:=true) (len:=es.length) (cap:=cap) hl hh h1 h2 h3 (x4k h4 hcap);refine .mk (u:=.slice (some (if cap=l' then⟨b,off,none⟩else⟨b,off+l'*ie.size,none⟩)) (h''-l') (cap-l')) hK (.p ?_) fun w' _ _=>?_
       ·have hlen:((es.take h'').drop l').length=h''-l':=by simp;omega
        by_cases hcl:cap=l'
        ·have:(es.take h'').drop l'=[]:=x4e (by rw[hlen];omega);rw[if_pos hcl,this];have:=Rep.sl (σ:=σ) [] b off (cap-l') 0 cells u hb (by simp) (by omega) (by simp) (by simp) (by simp)
         rwa[show h''-l'=([]:List AV).length by simp;omega]
        ·rw[if_neg hcl,<-hlen];have get:∀(i:Nat)(e:AV),((es.take h'').drop l')[i]?=some e->es[l'+i]?=some e:=fun i e hi=>by
          rw[x4c,x4g]at hi;split at hi
          ·exact hi
          ·cases hi
         refine .sl _ b _ _ sz cells (fun i j=>u (l'+i) j) hb (by rw[hlen];omega) (by omega) (fun i e hi=>hsz' _ _ (get i e hi)) (fun i e j c hi hj=>?_) fun i e j c hi hj=>hrr _ _ _ _ (get i e hi) hj;have h5:=hc _ _ _ _ (get i e hi) hj;have h6:sz=ie.size:=by
          have h7:=hsz' _ _ (get i e hi);rw[<-h7];exact hsz e (x3k (get i e hi))
         subst h6;rw[<-h5];congr 1;rw[x5d];omega
       ·simp[execOp,hop,Instr.sliceAt,Instr.slice,run_underlying ht,hv,hb',hsize,JP];split<;>rfl
  ·rename_i ie k off len hie he;rw[he]at hx;split at h<;>first|exact h.elim|skip
   rename_i e' sz es hg;obtain⟨hsz,l',h'',h1,h2,h3,h4,hK⟩:=h;have hsize:=(hT _ _ hie).sizeOf;generalize hv:a.eval x=v at hx;cases hx with
   | hdn _ hk=>
     simp at h4;have:l'=0:=by omega
     subst h4 this;refine .mk hK (by simpa using .hdn k hk) fun w' _ _=>?_;have hb:=JU (P:=P) (isSlice:=true) (len:=0) (cap:=0) hl hh h1 h2 h3 (x3g _) w';simp[execOp,hop,Instr.sliceAt,Instr.slice,run_underlying ht,hv,hb,hsize]
   | hd _ _ _ i oo hk hle ho=>
     have hb':=JU (P:=P) (isSlice:=true) (len:=len) (cap:=i.cap-off) hl hh h1 h2 h3 (by omega);have hisz:i.sz=ie.size:=by
      rcases hH.chunks k _ (QG hg)with h0|⟨i',vs,hi,hs',_⟩
      ·rw[hk]at h0;cases h0.1
      ·rw[hk]at hi;cases hi;rw[hs',hsz]
     refine .mk (u:=.slice (some (if i.cap-off=l' then⟨i.blk,oo,none⟩else⟨i.blk,oo+l'*ie.size,none⟩)) (h''-l') (i.cap-off-l')) hK ?_ fun w' _ _=>?_
     ·rw[show i.cap-off-l'=i.cap-(off+l') by omega];by_cases hcl:i.cap-off=l'
      ·rw[if_pos hcl];refine .hd k (off+l') (h''-l') i oo hk (by omega) ?_;by_cases h0:off+l'=0
       ·have e1:off=0:=by omega
        have e2:l'=0:=by omega
        subst e1 e2;rcases ho with ho|ho
        ·exact .inl (by simpa using ho)
        ·omega
       ·exact .inr ⟨by omega,by omega⟩
      ·rw[if_neg hcl];refine .hd k (off+l') (h''-l') i _ hk (by omega) (.inl ?_);rcases ho with ho|ho
       ·rw[ho,hisz,x5d]
       ·omega
     ·simp[execOp,hop,Instr.sliceAt,Instr.slice,run_underlying ht,hv,hb',hsize,JP];split<;>rfl
  ·exact h.ok σ β a w hs hH
 ·exact h.ok σ β a w hs hH
theorem Dt(hT:TabOK P T){x i:Operand}(hop:o.op=.indexAddr t x i)(h:HC P T hr s o K)(hs:∀i,RepL σ β (getS s.sl i) (a.tmps.getD i undef))(hH:HRel σ β s.H w):Snd P hr σ β a w o K:=by
 simp only[HC,hop]at h;have hx:=QZ hs x;have hi:=QZ hs i;split at h<;>first|exact h.elim|skip
 ·rename_i e _ _ _ ki n ht hie;rw[hie]at hi;have hi:=hi.int;have ht:=hT.of ht;split at h<;>first|exact h.elim|skip
  ·rename_i ie es he' he;rw[he]at hx;obtain⟨k,el,hk,hel,hsz,hK⟩:=h;have hsize:=(hT _ _ he').sizeOf;generalize hv:a.eval x=v at hx;cases hx with
   | p hx=>cases hx with
     |nilsl=>simp at hel
     |slz b=>simp at hel
     | sl _ b off cap sz cells u hb hcap hmax hsz' hc hrr=>
       have hlt:k<es.length:=(x2o.1 hel).1;have h6:sz=ie.size:=by rw[<-hsz' _ _ hel,hsz]
       subst h6;refine .mk hK (.p (.ip _ b (off+k*ie.size) cells (u k) hb (fun j c hj=>hc _ _ _ _ hel hj) fun j c hj=>hrr _ _ _ _ hel hj)) fun w' _ _=>?_;simp[execOp,hop,Instr.indexAt,hi,asIntOf,run_underlying ht,hv,hk,hlt,hsize,JP]
  ·rename_i ie k off len he' he;rw[he]at hx;split at h<;>first|exact h.elim|skip
   rotate_left 1
   ·rename_i e' e2 sz rows hole hg;obtain⟨hsz,m,hm,hml,hK⟩:=h;have hsize:=(hT _ _ he').sizeOf;generalize hv:a.eval x=v at hx;cases hx with
    |hdn _ hk=>omega
    | hd _ _ _ bi oo hk hle ho=>
      have hisz:bi.sz=1:=by
       rcases hH.chunks k _ (QG hg)with h0|⟨i',vs,hi',hs',_⟩
       ·rw[hk]at h0;cases h0.1
       ·rw[hk]at hi';cases hi';exact hs'
      have hoo:oo=off:=by rcases ho with ho|ho;rw[ho,hisz,x9c];omega
      refine .mk hK (.ptr k _ bi hk) fun w' _ _=>?_;simp[execOp,hop,Instr.indexAt,hi,asIntOf,run_underlying ht,hv,hm,hml,hsize,JP,hoo,<-hsz]
   ·rename_i e' cs hg;obtain⟨h0,m,hm,hml,hK⟩:=h;have hsize:=(hT _ _ he').sizeOf;generalize hv:a.eval x=v at hx;cases hx with
    |hdn _ hk=>omega
    | hd _ _ _ bi oo hk hle ho=>
      have hoo:oo=0:=by
       rcases ho with ho|ho
       ·rw[ho,h0,Nat.zero_mul]
       ·omega
      refine .mk hK (.ptr k _ bi hk) fun w' _ _=>?_;simp[execOp,hop,Instr.indexAt,hi,asIntOf,run_underlying ht,hv,hm,hml,hsize,JP,hoo]
   rename_i e' sz es hg;obtain⟨hsz,m,hm,hml,hK⟩:=h;have hsize:=(hT _ _ he').sizeOf;generalize hv:a.eval x=v at hx;cases hx with
   |hdn _ hk=>omega
   | hd _ _ _ bi oo hk hle ho=>
     have hisz:bi.sz=sz:=by
      rcases hH.chunks k _ (QG hg)with h0|⟨i',vs,hi',hs',_⟩
      ·rw[hk]at h0;cases h0.1
      ·rw[hk]at hi';cases hi';exact hs'
     have hoo:oo=off*sz:=by rcases ho with ho|ho;rw[ho,hisz];omega
     refine .mk hK (.ptr k _ bi hk) fun w' _ _=>?_;simp[execOp,hop,Instr.indexAt,hi,asIntOf,run_underlying ht,hv,hm,hml,hsize,JP,hoo,hsz,x5d]
  ·rename_i ie k ra len he' he;rw[he]at hx;split at h<;>first|exact h.elim|skip
   rename_i e' e2 sz rows hole hg;obtain⟨hsz,m,hm,hml,hK⟩:=h;have hsize:=(hT _ _ he').sizeOf;generalize hv:a.eval x=v at hx;cases hx with
   | ext _ _ bi _ hk hd=>
     rcases hd with⟨_,h0,_⟩|⟨b,c,hb,hle,rfl⟩
     ·omega
     ·refine .mk hK (.ext k _ bi _ hk ⟨b,c,hb,rfl⟩) fun w' _ _=>?_;simp[execOp,hop,Instr.indexAt,hi,asIntOf,run_underlying ht,hv,hm,hml,hsize,JP,hsz]
 ·rename_i len e _ _ _ ki n ht hie;rw[hie]at hi;have hi:=hi.int;have ht:=hT.of ht;split at h<;>first|exact h.elim|skip
  ·rename_i ie cs he' he;rw[he]at hx;obtain⟨m,hm,hml,hK⟩:=h;have hsize:=(hT _ _ he').sizeOf;cases hx with
   | p hx=>
     have hx0:=hx;generalize hv:a.eval x=v at hx hx0;cases hx with
     | ip _ b off cells u hb hc hrr=>
       refine .mk hK (.p (hx0.ip_drop _)) fun w' _ _=>?_;simp[execOp,hop,Instr.indexAt,hi,asIntOf,run_underlying ht,hv,hm,hml,hsize,JP,Instr.sureAddr]
  ·rename_i ie k off he' he;rw[he]at hx;obtain⟨m,hm,hml,hK⟩:=h;have hsize:=(hT _ _ he').sizeOf;generalize hv:a.eval x=v at hx;cases hx with
   | ptr _ _ bi hk=>
     refine .mk hK (.ptr k _ bi hk) fun w' _ _=>?_;simp[execOp,hop,Instr.indexAt,hi,asIntOf,run_underlying ht,hv,hm,hml,hsize,JP,Instr.sureAddr]
theorem Eh(hT:TabOK P T){x i:Operand}(hop:o.op=.index t x i)(h:HC P T hr s o K)(hs:∀i,RepL σ β (getS s.sl i) (a.tmps.getD i undef)):Snd P hr σ β a w o K:=by
 simp only[HC,hop]at h;have hx:=QZ hs x;have hi:=QZ hs i;split at h<;>first|exact h.elim|skip
 ·rename_i _ _ _ ki n ht hie;rw[hie]at hi;have hi:=hi.int;have ht:=hT.of ht;split at h<;>first|exact h.elim|skip
  rename_i c he;rw[he]at hx;obtain⟨hv,hc⟩:=hx.strV;obtain⟨k,b,hk,hb,hK⟩:=h;refine .mk hK (.p (.int _ _)) fun w' _ _=>?_;have hb':(ByteArray.mk c.toArray)[k]?=some b:=by
   have hlt:k<c.length:=(x2o.1 hb).1;have hlt':k<(ByteArray.mk c.toArray).size:=by rw[Qm];exact hlt
   rw[getElem?_pos (ByteArray.mk c.toArray) k hlt'];congr 1;have:c[k]=b:=(x2o.1 hb).2;rw[<-this];rfl
  simp[execOp,hop,Instr.index,hi,asIntOf,run_underlying ht,hv,hk,hb']
 ·rename_i len e _ _ _ ki n ht hie;rw[hie]at hi;have hi:=hi.int;have ht:=hT.of ht;split at h<;>first|exact h.elim|skip
  rename_i ie cs he' he;rw[he]at hx;obtain⟨vs,hv,_,hc⟩:=q7a hx;obtain⟨m,hm,hml,hK⟩:=h;have h':=D5 hK;rw[List.map_drop]at h';obtain⟨c,u,⟨c',hK',rfl⟩,hrep,hrun⟩:=Z4 hT h' hc;have hsize:=(hT _ _ he').sizeOf;exact .mk hK' hrep fun w' _ _=>by simp[execOp,hop,Instr.index,hi,asIntOf,run_underlying ht,hv,hm,hml,hsize,hrun]
theorem Mz{fn:Fn}{first caps:Array Operand}(hop:o.op=.makeFunc fn first caps)(h:HC P T hr s o K)(hs:∀i,RepL σ β (getS s.sl i) (a.tmps.getD i undef))(hH:HRel σ β s.H w):Snd P hr σ β a w o K:=by
 cases fn with
 | func f=>
   simp only[HC,hop]at h;split at h
   ·rename_i l hf hc;have hf':first=#[]:=by simpa using hf
    subst hf';have:=GG hc;have hn:caps.size=l.length:=by
     have:=x5u List.length this;simpa using this
    refine .mk h (.p (.fn f l (caps.map a.eval) (fun j=>(caps.map a.eval).getD j undef) (by simp[hn]) (fun j c hj=>?_) fun j c hj=>?_)) fun w' _ _=>by
     simp[execOp,hop,Instr.makeFunc]
    ·have hlt:j<caps.size:=by rw[hn];exact(x2o.1 hj).1
     simp[hlt]
    ·have hlt:j<caps.size:=by rw[hn];exact(x2o.1 hj).1
     have h1:(caps.toList.map (QM s.sl))[j]?=some (.p c):=by rw[this];simp[hj]
     simp[hlt]at h1⊢;have:=QZ hs caps[j];rw[h1]at this;cases this with
     |p h=>exact h
   ·exact h.ok σ β a w hs hH
 |_=>simp only[HC,hop]at h;exact h.ok σ β a w hs hH
theorem q4j(hT:TabOK P T){args:Array Operand}{argTypes:Array TypeId}(hop:o.op=.call {callee:=.builtin .len,args,argTypes})(h:HC P T hr s o K)(hs:∀i,RepL σ β (getS s.sl i) (a.tmps.getD i undef))(hH:HRel σ β s.H w):Snd P hr σ β a w o K:=by
 simp only[HC,hop]at h;have split1:∀{A B:Type}(f:A->B)(l:Array A)(b:B),l.toList.map f=[b]->∃x,l=#[x]/\f x=b:=fun f l b hl=>by
  cases hq:l.toList with
  |nil=>rw[hq]at hl;cases hl
  | cons x r=>
    rw[hq]at hl;cases r with
    |nil=>exact⟨x,by apply ext';simpa using hq,by simpa using hl⟩
    |cons y r=>simp at hl
 have done:∀(x:Operand)(t:TypeId),args=#[x]->argTypes=#[t]->∀(n:Nat)(w':World),(Builtin.len_ #[t] o.type #[a.eval x]).run P w'=.ok (.int .i64 n) w'->(execOp a.eval o).run P w'=.ok (.value (.int .i64 n)) w':=fun x t h1 h2 n w' hl=>by
  subst h1 h2;simp[execOp,hop,resolve,invoke,builtin,hl]
 split at h
 ·rename_i c _ _ _ ha ht;obtain⟨x,rfl,hx'⟩:=split1 _ _ _ ha;obtain⟨t,rfl,ht'⟩:=split1 _ _ _ ht;have ht:=hT.of ht';have hx:=QZ hs x;rw[hx']at hx;obtain⟨hv,hc⟩:=hx.strV;refine .mk (h hc) (.p (.int _ _)) fun w' _ _=>done x t rfl rfl _ w' ?_;simp[Builtin.len_,run_underlying ht,hv,goInt,Qm]
 ·rename_i es _ _ _ _ ha ht;obtain⟨x,rfl,hx'⟩:=split1 _ _ _ ha;obtain⟨t,rfl,ht'⟩:=split1 _ _ _ ht;have ht:=hT.of ht';have hx:=QZ hs x;rw[hx']at hx;generalize hv:a.eval x=v at hx;cases hx with
  | p hx=>cases hx with
    | nilsl=>
      refine .mk (h (by simp)) (.p (.int _ _)) fun w' _ _=>done x t rfl rfl _ w' ?_;simp[Builtin.len_,run_underlying ht,hv,goInt]
    | slz b=>
      refine .mk (h (by simp)) (.p (.int _ _)) fun w' _ _=>done x t rfl rfl _ w' ?_;simp[Builtin.len_,run_underlying ht,hv,goInt]
    | sl _ b off cap sz cells u hb hcap hmax hsz' hc hrr=>
      refine .mk (h (x4k hcap hmax)) (.p (.int _ _)) fun w' _ _=>done x t rfl rfl _ w' ?_;simp[Builtin.len_,run_underlying ht,hv,goInt]
 ·rename_i _ _ _ _ ha ht;obtain⟨x,rfl,hx'⟩:=split1 _ _ _ ha;obtain⟨t,rfl,ht'⟩:=split1 _ _ _ ht;have ht:=hT.of ht';have hx:=QZ hs x;rw[hx']at hx;generalize hv:a.eval x=v at hx;cases hx with
  | p hx=>cases hx with
    | nils=>
      refine .mk h (.p (.int _ _)) fun w' _ _=>done x t rfl rfl 0 w' ?_;simp[Builtin.len_,run_underlying ht,hv,goInt]
 ·rename_i k off len _ _ _ _ ha ht;obtain⟨x,rfl,hx'⟩:=split1 _ _ _ ha;obtain⟨t,rfl,ht'⟩:=split1 _ _ _ ht;have ht:=hT.of ht';have hx:=QZ hs x;rw[hx']at hx;generalize hv:a.eval x=v at hx;split at h<;>first|exact h.elim|skip
  rotate_left 1
  ·cases hx with
   | hdn _ hk=>
     refine .mk h (.p (.int _ _)) fun w' _ _=>done x t rfl rfl _ w' ?_;simp[Builtin.len_,run_underlying ht,hv,goInt]
   | hd _ _ _ bi oo hk hle ho=>
     refine .mk h (.p (.int _ _)) fun w' _ _=>done x t rfl rfl _ w' ?_;simp[Builtin.len_,run_underlying ht,hv,goInt]
  rename_i e' sz es hg;cases hx with
  | hdn _ hk=>
    refine .mk (h (by simp)) (.p (.int _ _)) fun w' _ _=>done x t rfl rfl _ w' ?_;simp[Builtin.len_,run_underlying ht,hv,goInt]
  | hd _ _ _ bi oo hk hle ho=>
    have hmax:bi.cap<=maxLen:=by
     rcases hH.chunks k _ (QG hg)with h0|⟨i',vs,hi',_,_,_,_,hm,_⟩
     ·rw[hk]at h0;cases h0.1
     ·rw[hk]at hi';cases hi';exact hm
    refine .mk (h (by omega)) (.p (.int _ _)) fun w' _ _=>done x t rfl rfl _ w' ?_;simp[Builtin.len_,run_underlying ht,hv,goInt]
 ·rename_i k ra len _ _ _ _ ha ht;obtain⟨x,rfl,hx'⟩:=split1 _ _ _ ha;obtain⟨t,rfl,ht'⟩:=split1 _ _ _ ht;have ht:=hT.of ht';have hx:=QZ hs x;rw[hx']at hx;generalize hv:a.eval x=v at hx;cases hx with
  | ext _ _ bi _ hk hd=>
    rcases hd with⟨_,rfl,rfl⟩|⟨b,c,hb,hle,rfl⟩
    ·refine .mk h (.p (.int _ _)) fun w' _ _=>done x t rfl rfl 0 w' ?_;simp[Builtin.len_,run_underlying ht,hv,goInt]
    ·refine .mk h (.p (.int _ _)) fun w' _ _=>done x t rfl rfl _ w' ?_;simp[Builtin.len_,run_underlying ht,hv,goInt]
 ·exact h.ok σ β a w hs hH
end
section
variable {P:Program}{T:Tab}{hr:Bool}{σ:Mem}{β:Lab}{a:Act}{w:World}{o:Oper}{K:LV->Prop}{s:St}
def RepC(σ:Mem)(β:Lab)(ls:List LV)(vs:List Value):Prop:=
 vs.length=ls.length/\∀(j:Nat)(l:LV),ls[j]?=some l->∃u:Value,vs[j]?=some u/\RepL σ β l u
theorem RepC.append{l1 l2:List LV}{v2:List Value}(h1:RepC σ β l1 v1)(h2:RepC σ β l2 v2):RepC σ β (l1++l2) (v1++v2):=by
 refine⟨by simp[h1.1,h2.1],fun j l hj=>?_⟩;rw[x6c]at hj⊢;rw[h1.1];split at hj
 ·rename_i hlt;simp only[hlt,if_true];exact h1.2 j l hj
 ·rename_i hlt;simp only[hlt,if_false];exact h2.2 _ l hj
theorem RepC.take{l1:List LV}(h1:RepC σ β l1 v1)(n:Nat):RepC σ β (l1.take n) (v1.take n):=by
 refine⟨by simp[h1.1],fun j l hj=>?_⟩;rw[x4g]at hj⊢;split at hj
 ·rename_i hlt;simp only[hlt,if_true];exact h1.2 j l hj
 ·cases hj
theorem RepC.drop{l1:List LV}(h1:RepC σ β l1 v1)(n:Nat):RepC σ β (l1.drop n) (v1.drop n):=by
 refine⟨by simp[h1.1],fun j l hj=>?_⟩;rw[x4c]at hj⊢;exact h1.2 _ l hj
theorem RepC.mkAgg{ls:List LV}{vs:List Value}(h:RepC σ β ls vs):RepL σ β (mkAgg ls) (.agg vs.toArray):=by
 have hfun:∀(j:Nat),∃u:Value,∀(l:LV),ls[j]?=some l->vs[j]?=some u/\RepL σ β l u:=fun j=>by
  cases hj:ls[j]?with
  |none=>exact⟨undef,fun l h=>by cases h⟩
  |some l=>obtain⟨u,h1,h2⟩:=h.2 j l hj;exact⟨u,fun l' h=>by cases h;exact⟨h1,h2⟩⟩
 obtain⟨u,hu⟩ : ∃u:Nat->Value,∀(j:Nat)(l:LV),ls[j]?=some l->vs[j]?=some (u j)/\RepL σ β l (u j):=⟨fun j=>(hfun j).choose,fun j=>(hfun j).choose_spec⟩;exact RepL.mkAgg u (by simpa using h.1) (fun j l hj=>by simpa using(hu j l hj).1) fun j l hj=>(hu j l hj).2
theorem BH{l:LV}(h:RepL σ β l v){ls:List LV}(hl:WD l=some ls):RepC σ β ls v.cells.toList:=by
 have one:∀{l:LV},RepL σ β l v->l.one=true->RepC σ β [l] v.cells.toList:=fun {l} h h1=>by
  have hc:=h.oneCell h1;have:v.cells=#[v]:=by cases v<;>first|rfl|simp[Value.oneCell']at hc
  rw[this];refine⟨rfl,fun j l' hj=>?_⟩;cases j with
  |zero=>simp at hj;subst hj;exact⟨v,rfl,h⟩
  |succ j=>simp at hj
 cases l with
 | p c=>
   cases c with
   | agg cs=>
     simp only[WD,x6r]at hl;subst hl;obtain⟨vs,rfl,hn,hc⟩:=q7a h;exact⟨by simpa[Value.cells]using hn,fun j l hj=>by simpa[Value.cells]using hc j l hj⟩
   |any=>simp[WD,LV.one,AV.one]at hl
   |und=>simp[WD,LV.one,AV.one]at hl
   | raw x=>
     cases x with
     |pointer q=>simp[WD,LV.one,AV.one]at hl;subst hl;exact one h rfl
     |_=>simp[WD,LV.one,AV.one]at hl
   |tup _=>simp[WD,LV.one,AV.one]at hl
   |_=>simp[WD,LV.one,AV.one]at hl;subst hl;exact one h rfl
 | agg cs=>
   simp only[WD,x6r]at hl;subst hl;obtain⟨vs,rfl,hn,hc⟩:=x1z h;exact⟨by simpa[Value.cells]using hn,fun j l hj=>by simpa[Value.cells]using hc j l hj⟩
 |tup _=>simp[WD,LV.one]at hl
 |ptr _ _=>simp[WD,LV.one]at hl;subst hl;exact one h rfl
 |hd _ _ _=>simp[WD,LV.one]at hl;subst hl;exact one h rfl
 |ext _ _=>simp[WD,LV.one]at hl;subst hl;exact one h rfl
theorem q5v(vs:List Value):∀(k:Nat)(off:Nat)(cells:Array Value),off+k+vs.length<=cells.size->
  ((vs.zipIdx k).foldl (fun cs (x:Value×Nat)=>cs.setIfInBounds (off+x.2) x.1) cells).toList=cells.toList.take (off+k)++vs++cells.toList.drop (off+k+vs.length):=by
 induction vs with
 |nil=>intro k off cells h;simp
 | cons v r ih=>
   intro k off cells h;simp only[List.zipIdx_cons,x6v];rw[ih (k+1) off _ (by simp at h⊢;omega)];have:=list_seg_step cells.toList (off+k) v r (by simpa[x6z,x9j,Nat.add_left_comm]using h);simpa[Array.toList_setIfInBounds,x6z]using this
theorem V8{place placeL:Nat->Option (Nat×Nat)}(hp:∀i x,placeL i=some x->place i=some x):∀(ps:List (Nat×LV))(qs:List (Nat×Value))(ls:List LV)(vs:Array Value)(out:List LV),
  ps.map (·.1)=qs.map (·.1)->(∀(j:Nat)(x:Nat×LV)(y:Nat×Value),ps[j]?=some x->qs[j]?=some y->RepL σ β x.2 y.2)->RepC σ β ls vs.toList->S9 placeL ls ps=some out->
  ∃cs,Instr.fill place vs qs=some cs/\RepC σ β out cs.toList
 | [],[],ls,vs,out,_,_,hr,h=>by
   simp only[S9,x6r]at h;subst h;exact⟨vs,rfl,hr⟩
 |[],_::_,_,_,_,h,_,_,_=>by simp at h
 |_::_,[],_,_,_,h,_,_,_=>by simp at h
 | (i,l)::ps,(i',v)::qs,ls,vs,out,he,hrep,hr,h=>by
   simp only[x3l,List.cons.injEq]at he;obtain⟨rfl,he⟩:=he;simp only[S9]at h;split at h
   ·cases h
   rename_i off size hpl;split at h
   ·cases h
   rename_i us hus;have hv:=hrep 0 (i,l) (i,v) rfl rfl;have hcu:=BH hv hus;cases hb:(us.length==size&&ble (off+size) ls.length)with
   |false=>simp[hb]at h
   | true=>
     simp only[hb,x3p]at h;simp only[x3h,x6d,x8c]at hb;obtain⟨hb1,hb2⟩:=hb;have hsz:v.cells.size=size:=by rw[<-hb1,<-hcu.1];simp
     have hfit:off+v.cells.size<=vs.size:=by
      have:=hr.1;simp at this;omega
     have hz:=q5v v.cells.toList 0 off vs (by simpa using hfit);have hzip:v.cells.zipIdx.foldl (fun cs (x:Value×Nat)=>cs.setIfInBounds (off+x.2) x.1) vs=(v.cells.toList.zipIdx 0).foldl (fun cs (x:Value×Nat)=>cs.setIfInBounds (off+x.2) x.1) vs:=by
      rw[<-Array.foldl_toList];simp
     obtain⟨cs,hcs,hout⟩:=V8 hp ps qs _ (v.cells.zipIdx.foldl (fun cs (x:Value×Nat)=>cs.setIfInBounds (off+x.2) x.1) vs) out he (fun j x y hx hy=>hrep (j+1) x y (by simpa using hx) (by simpa using hy)) (by
      rw[hzip,hz];have:v.cells.toList.length=size:=by simpa using hsz
      simp only[x8u,this];exact((hr.take off).append hcu).append (hr.drop (off+size))) h
     refine⟨cs,?_,hout⟩;simp only[Instr.fill,hp i _ hpl];rw[if_neg]
     ·exact hcs
     ·simp[hsz];have:=hr.1;simp at this;omega
theorem SJ(hT:TabOK P T)(fs:Array Field)(w':World)(h:∀f∈fs,∃i,T.get f.type=some i):
  ((fs.mapM fun f=>do pure (f.offset,<-sizeOf f.type):Sem (Array (Nat×Nat))).run P w')=.ok (fs.map fun f=>(f.offset,((T.get f.type).map (·.size)).getD 0)) w':=by
 have key:∀(l:List Field),(∀f∈l,∃i,T.get f.type=some i)->
   ((l.mapM fun f=>do pure (f.offset,<-sizeOf f.type):Sem (List (Nat×Nat))).run P w')=.ok (l.map fun f=>(f.offset,((T.get f.type).map (·.size)).getD 0)) w':=by
  intro l;induction l with
  |nil=>intro _;rfl
  | cons f r ih=>
    intro hl;obtain⟨i,hi⟩:=hl f (by simp);have:=(hT _ _ hi).sizeOf w';simp only[List.mapM_cons,Sem.run_bind,this,Result.andThen_ok,Sem.run_pure,ih fun f hf=>hl f (by simp[hf]),x3l,hi,x6e,x5q]
 rw[Array.mapM_eq_mapM_toList];simp only[Sem.run_map];rw[key fs.toList fun f hf=>h f (by simpa using hf)];simp only[Result.andThen_ok];congr 1;apply ext';simp
theorem Ek(hT:TabOK P T){parts:Array (Nat×Operand)}(hop:o.op=.build t parts)(h:HC P T hr s o K)(hs:∀i,RepL σ β (getS s.sl i) (a.tmps.getD i undef)):Snd P hr σ β a w o K:=by
 simp only[HC,hop]at h;split at h<;>first|exact h.elim|skip
 rename_i i hi;split at h<;>first|exact h.elim|skip
 rename_i z hz;obtain⟨hin,h⟩:=h;split at h<;>first|exact h.elim|skip
 rename_i cs hcs;have hzr:=q7a (β:=β) (.p (hz▸Rep.ofV σ i.zero));obtain⟨vs,hv,hn,hc⟩:=hzr;have hzc:RepC σ β (z.map .p) vs.toList:=⟨by simpa using hn,fun j l hj=>by simpa using hc j l hj⟩;have hrep:∀(j:Nat)(x:Nat×LV)(y:Nat×Value),(parts.toList.map fun x=>(x.1,QM s.sl x.2))[j]?=some x->(parts.toList.map fun x=>(x.1,a.eval x.2))[j]?=some y->RepL σ β x.2 y.2:=fun j x y hx hy=>by
  rw[x2e]at hx hy;cases hq:parts.toList[j]?with
  |none=>rw[hq]at hx;cases hx
  |some q=>rw[hq]at hx hy;cases hx;cases hy;exact QZ hs _
 have hok:=hT _ _ hi;cases hd:i.desc with
 | struct fs=>
   have hall:∀f∈fs,∃i,T.get f.type=some i:=fun f hf=>by
    simp only[hd,V7,x4d]at hin;exact Option.isSome_iff_exists.1 (hin f (by simpa using hf))
   obtain⟨out,hout,hrc⟩:=V8 (σ:=σ) (β:=β) (place:=((fs.map fun f=>(f.offset,((T.get f.type).map (·.size)).getD 0))[·]?)) (placeL:=Yc T i.desc) (fun j x hx=>by
    simp only[Yc,hd]at hx;split at hx
    ·rename_i f hf;simp only[x7r]at hx;obtain⟨y,hy,rfl⟩:=hx;simp[hf,hy]
    ·cases hx) _ (parts.toList.map fun x=>(x.1,a.eval x.2)) _ vs cs (by simp) hrep hzc hcs
   refine .mk h hrc.mkAgg fun w' _ _=>?_;have hpl:=SJ (P:=P) (T:=T) hT fs w' hall;have hout':Instr.fill ((fs.map fun f=>(f.offset,((T.get f.type).map (·.size)).getD 0))[·]?) vs ((parts.map fun(i,x)=>(i,a.eval x)).toList)=some out:=by
    rw[<-hout];congr 1;simp
   simp only[execOp,hop,Instr.build,Sem.run_bind,hok.zeroValue,Result.andThen_ok,hok.runUnder,hd,hpl,hv,Value.cells,hout',Sem.run_pure]
 | array n e=>
   simp only[hd,V7]at hin;obtain⟨ie,hie⟩:=Option.isSome_iff_exists.1 hin;obtain⟨out,hout,hrc⟩:=V8 (σ:=σ) (β:=β) (place:=fun i=>some (i*ie.size,ie.size)) (placeL:=Yc T i.desc) (fun j x hx=>by
    simp only[Yc,hd,hie,x6e]at hx;exact hx) _ (parts.toList.map fun x=>(x.1,a.eval x.2)) _ vs cs (by simp) hrep hzc hcs
   refine .mk h hrc.mkAgg fun w' _ _=>?_;have hout':Instr.fill (fun i=>some (i*ie.size,ie.size)) vs ((parts.map fun(i,x)=>(i,a.eval x)).toList)=some out:=by
    rw[<-hout];congr 1;simp
   simp only[execOp,hop,Instr.build,Sem.run_bind,hok.zeroValue,Result.andThen_ok,hok.runUnder,hd,(hT _ _ hie).sizeOf,hv,Value.cells,hout',Sem.run_pure]
 |_=>simp[hd,V7]at hin
theorem BI(hT:TabOK P T)(h:HC P T hr s o K)(hs:∀i,RepL σ β (getS s.sl i) (a.tmps.getD i undef))(hH:HRel σ β s.H w):Snd P hr σ β a w o K:=by
 have gen:ValO P hr s o K->Snd P hr σ β a w o K:=fun h=>h.ok σ β a w hs hH;cases hop:o.op with
 |move x=>simp only[HC,hop]at h;exact Ts (.inl hop) h hs
 |assign x=>simp only[HC,hop]at h;exact Ts (.inr hop) h hs
 |pick c x y=>exact OS hop h hs
 |fieldAddr t x f=>exact Dr hT hop h hs
 |load t x=>exact OT hT hop h hs hH
 |nilCheck x=>exact Mw hop h hs hH
 |binOp op t x y u=>exact Ej hT hop h hs hH
 |unOp op t x=>exact OC hop h hs hH
 |convert s d x=>exact Ru hT hop h hs hH
 |slice t x l h' m=>exact Ef hT hop h hs hH
 |field t x f=>exact Eg hT hop h hs
 |indexAddr t x i=>exact Dt hT hop h hs hH
 |index t x i=>exact Eh hT hop h hs
 |extract x i=>exact Ry hop h hs
 |build t ps=>exact Ek hT hop h hs
 |makeFunc fn f c=>exact Mz hop h hs hH
 | call c=>
   obtain⟨callee,args,argTypes⟩:=c;cases callee with
   | builtin b=>
     cases b with
     |len=>exact q4j hT hop h hs hH
     |_=>simp only[HC,hop]at h;exact gen h
   |_=>simp only[HC,hop]at h;exact gen h
 |_=>simp only[HC,hop]at h;exact gen h
end
def Mc:List (Nat×LV)->Nat->LV->List (Nat×LV)
 |[],i,v=>[(i,v)]
 |(j,x)::r,i,v=>bif i==j then(i,v)::r else bif blt i j then(i,v)::(j,x)::r else(j,x)::Mc r i v
def q3e:List (Nat×LV)->Nat->LV->(List (Nat×LV)->Prop)->Prop
 |[],i,v,K=>K [(i,v)]
 |(j,x)::r,i,v,K=>bif i==j then K ((i,v)::r)else bif blt i j then K ((i,v)::(j,x)::r)else q3e r i v fun r'=>K ((j,x)::r')
theorem Ye:∀(sl:List (Nat×LV))(i:Nat)(v:LV)(K:List (Nat×LV)->Prop),q3e sl i v K=K (Mc sl i v)
 |[],_,_,_=>rfl
 | (j,x)::r,i,v,K=>by
   simp only[q3e,Mc];cases i==j with
   |true=>rfl
   | false=>
     cases blt i j with
     |true=>rfl
     |false=>simp only[x3t,Ye r]
theorem Xd{α:Type}(i j:Nat)(x y:α):(bif i==j then x else y)=if i=j then x else y:=by
 by_cases h:i=j
 ·simp[h]
 ·have:(i==j)=false:=by simp[h]
  simp[this,h]
theorem Fr:∀(sl:List (Nat×LV))(i:Nat)(v:LV)(j:Nat),getS (Mc sl i v) j=if i=j then v else getS sl j
 | [],i,v,j=>by
   simp only[Mc,getS];rw[Xd]
 | (k,x)::r,i,v,j=>by
   simp only[Mc];by_cases h1:i=k
   ·subst h1;simp only[x6u,x3p,getS,Xd];by_cases h:i=j<;>simp[h]
   ·have:(i==k)=false:=by simp[h1]
    simp only[this,x3t];by_cases h2:i<k
    ·have:blt i k=true:=by simp[blt,Nat.succ_le_of_lt h2]
     simp only[this,x3p,getS,Xd]
    ·have:blt i k=false:=by
      cases hb:blt i k with
      |false=>rfl
      |true=>simp[blt]at hb;omega
     simp only[this,x3t,getS,Fr r,Xd];by_cases h:k=j
     ·subst h;simp[h1]
     ·simp[h]
theorem Ew{σ:Mem}{β:Lab}{sl:List (Nat×LV)}{a:Act}(h:∀i,RepL σ β (getS sl i) (a.tmps.getD i undef)){d:Nat}(hd:d<a.tmps.size){v:LV}{u:Value}(hv:RepL σ β v u):
  ∀i,RepL σ β (getS (Mc sl d v) i) ((a.put (some d) u).tmps.getD i undef):=fun i=>by
 rw[Fr];by_cases hi:d=i
 ·subst hi;simp[Act.put,hd];exact hv
 ·rw[if_neg hi];have:=h i;simpa[Act.put,x6t hi]using this
def WU(k:Nat)(s:St):Bool:=blt k 1000&&((s.H.all fun x=> !(x.1==k)&&x.2.free k)&&s.sl.all fun x=>x.2.free k)
theorem YW{s:St}(h:WU k s=true):k<1000:=by
 simp only[WU,x3h]at h;simpa[blt,Nat.lt_iff_add_one_le]using h.1
theorem XL{s:St}(h:WU k s=true):(∀j c,(j,c)∈s.H->j≠k/\c.free k=true)/\∀i,(getS s.sl i).free k=true:=by
 simp only[WU,x3h,x4d]at h;replace h:=h.2;refine⟨fun j c hc=>?_,fun i=>?_⟩
 ·have:=h.1 (j,c) hc;simp at this;exact this
 ·have:∀(sl:List (Nat×LV)),(∀x∈sl,x.2.free k=true)->(getS sl i).free k=true:=by
   intro sl;induction sl with
   |nil=>intro _;rfl
   | cons x r ih=>
     intro hx;obtain⟨j,v⟩:=x;simp only[getS];cases j==i with
     |true=>exact hx (j,v) (by simp)
     |false=>exact ih fun y hy=>hx y (by simp[hy])
  exact this s.sl h.2
theorem Jo{s:St}(h:∀j c,(j,c)∈s.H->j≠k/\c.free k=true):k∉s.H.map (·.1):=by
 intro hk;obtain⟨x,hx,rfl⟩:=x3q.1 hk;exact(h x.1 x.2 hx).1 rfl
theorem ID{σ:Mem}{β:Lab}{H:Heap}{w:World}(h:HRel σ β H w)(hlt:k<1000)(hk:∀j c,(j,c)∈H->j≠k/\c.free k=true){i:BInfo}(hi:i.blk=w.heap.size)(hsub:i.subs=[]){o:Obj}{c:Chunk}(hc:c.holds σ (β.set k (some i)) (w.alloc o) k):HRel σ (β.set k (some i)) ((k,c)::H) (w.alloc o)/\Later σ β H w σ (β.set k (some i)) ((k,c)::H) (w.alloc o):=by
 have hnk:k∉H.map (·.1):=fun hk'=>by
  obtain⟨x,hx,rfl⟩:=x3q.1 hk';exact(hk x.1 x.2 hx).1 rfl
 have hset:∀j∈H.map (·.1),(β.set k (some i)) j=β j:=fun j hj=>by
  have:j≠k:=fun e=>hnk (e▸hj);simp[Lab.set,this]
 have hpin:∀j,1000<=j->j<2000->(β.set k (some i)) j=β j:=fun j h0 h1=>by
  have:j≠k:=by omega
  simp[Lab.set,this]
 have hold:∀b,b<w.heap.size->(w.alloc o).heap[b]?=w.heap[b]?:=fun b hb=>heap_alloc_old w o b hb;have hsize:(w.alloc o).heap.size=w.heap.size+1:=by
  show(w.heap.push o).size=_;simp
 have hhas:∀b,i.has b->b=w.heap.size:=fun b hb=>by
  rcases hb with hb|⟨c,hb⟩
  ·omega
  ·rw[hsub]at hb;cases hb
 refine⟨⟨fun b c hb=>?_,fun j c' hj=>?_,?_,fun j hj i' hi' b hb=>?_,fun j hj j' hj' i1 i2 h1 h2 b hb1 hb2=>?_⟩,Mem.le_refl σ,⟨rfl,rfl,rfl,x3g _,by omega,fun b hb _=>hold b hb⟩,fun b h0 h1=>absurd h0 h1,fun b hb=>?_,hpin⟩
 ·obtain⟨e,fr,hh⟩:=h.mem b c hb;have hlt:b<w.heap.size:=(x3r.1 hh).1;exact⟨e,fr,(hold b hlt).trans hh⟩
 ·rcases x2i.1 hj with hj|hj
  ·cases hj;exact hc
  ·have hne:=hk j c' hj;refine(((h.chunks j c' hj).mono (Mem.le_refl σ) (w':=w.alloc o) fun i' hi' b hb=>?_)).set _ hne.1 hne.2;exact hold _ (h.apart j (x3q.2 ⟨_,hj,rfl⟩) i' hi' b hb).2
 ·simp only[x3l,x4r];exact⟨hnk,h.nodup⟩
 ·simp only[x3l,x2i]at hj;rcases hj with rfl|hj
  ·simp[Lab.set]at hi';subst hi';have hb:=hhas b hb;refine⟨?_,by omega⟩;cases hs:σ b with
   |none=>rfl
   | some c=>
     obtain⟨e,fr,hh⟩:=h.mem _ c hs;have hlt:=(x3r.1 hh).1;omega
  ·rw[hset j hj]at hi';have:=h.apart j hj i' hi' b hb;exact⟨this.1,by omega⟩
 ·simp only[x3l,x2i]at hj hj';rcases hj with rfl|hj<;>rcases hj' with rfl|hj'
  ·rfl
  ·simp[Lab.set]at h1;rw[hset j' hj']at h2;have:=(h.apart j' hj' i2 h2 b hb2).2;subst h1;have:=hhas b hb1;omega
  ·simp[Lab.set]at h2;rw[hset j hj]at h1;have:=(h.apart j hj i1 h1 b hb1).2;subst h2;have:=hhas b hb2;omega
  ·rw[hset j hj]at h1;rw[hset j' hj']at h2;exact h.inj j hj j' hj' i1 i2 h1 h2 b hb1 hb2
 ·obtain⟨j,hj,i',hi',hb'⟩:=hb;simp only[x3l,x2i]at hj;rcases hj with rfl|hj
  ·simp[Lab.set]at hi';subst hi';have:=hhas b hb';exact .inr (by omega)
  ·rw[hset j hj]at hi';exact .inl ⟨j,hj,i',hi',hb'⟩
theorem Rel.new{N:Nat}{σ:Mem}{β:Lab}{s:St}{a:Act}{w:World}(h:Rel N σ β s a w)(hk:WU k s=true){i:BInfo}(hi:i.blk=w.heap.size)(hsub:i.subs=[]){o:Obj}{c:Chunk}(hc:c.holds σ (β.set k (some i)) (w.alloc o) k):Rel N σ (β.set k (some i)) ⟨s.sl,(k,c)::s.H⟩ a (w.alloc o)/\Later σ β s.H w σ (β.set k (some i)) ((k,c)::s.H) (w.alloc o):=by
 obtain⟨h1,h2⟩:=XL hk;obtain⟨h3,h4⟩:=ID h.heap (YW hk) h1 hi hsub hc;exact⟨⟨h.size,h.defers,fun j=>(h.slots j).set _ (h2 j),h3⟩,h4⟩
theorem Rel.put{N:Nat}{σ:Mem}{β:Lab}{s:St}{a:Act}{w:World}(h:Rel N σ β s a w){d:Nat}(hd:d<N){v:LV}{u:Value}(hv:RepL σ β v u):
  Rel N σ β ⟨Mc s.sl d v,s.H⟩ (a.put (some d) u) w:=
 ⟨by simp[Act.put,h.size],h.defers,Ew h.slots (by rw[h.size];exact hd) hv,h.heap⟩
theorem IB{σ:Mem}{β:Lab}{H:Heap}{w:World}(h:HRel σ β H w){i:BInfo}(hk:k∈H.map (·.1))(hi:β k=some i){vs:Array Value}{H':Heap}(hH:H'.map (·.1)=H.map (·.1))(hold:∀j c,(j,c)∈H'->j≠k->(j,c)∈H)(hnew:∀c,(k,c)∈H'->c.holds σ β (w.setRow i.blk vs) k):
  HRel σ β H' (w.setRow i.blk vs)/\Later σ β H w σ β H' (w.setRow i.blk vs):=by
 have hap:=h.apart k hk i hi i.blk i.has_blk;have hot:∀b,b≠i.blk->(w.setRow i.blk vs).heap[b]?=w.heap[b]?:=fun b hb=>setRow_other w i.blk b vs hb;refine⟨⟨fun b c hb=>?_,fun j c hj=>?_,by rw[hH];exact h.nodup,fun j hj i' hi' b hb=>?_,fun j hj j' hj'=>h.inj j (hH▸hj) j' (hH▸hj')⟩,Mem.le_refl σ,⟨rfl,rfl,rfl,x3g _,by simp,fun b _ hn=>hot b fun e=>hn ⟨k,hk,i,hi,.inl e.symm⟩⟩,fun b h0 h1=>absurd h0 h1,fun b hb=>?_,fun _ _ _=>rfl⟩
 ·have hne:b≠i.blk:=fun e=>by rw[e,hap.1]at hb;cases hb
  obtain⟨e,fr,hh⟩:=h.mem b c hb;exact⟨e,fr,(hot b hne).trans hh⟩
 ·by_cases hjk:j=k
  ·subst hjk;exact hnew c hj
  ·have hm:=hold j c hj hjk;refine(h.chunks j c hm).mono (Mem.le_refl σ) fun i' hi' b hb=>hot _ fun e=>hjk ?_;exact h.inj j (x3q.2 ⟨_,hm,rfl⟩) k hk i' i hi' hi b hb (.inl e.symm)
 ·have:=h.apart j (hH▸hj) i' hi' b hb;exact⟨this.1,by simpa using this.2⟩
 ·obtain⟨j,hj,i',hi',hb'⟩:=hb;exact .inl ⟨j,hH▸hj,i',hi',hb'⟩
def Le(N:Nat)(s s':St):Prop:=∀σ β a w,Rel N σ β s a w->∃σ' β',Rel N σ' β' s' a w/\Later σ β s.H w σ' β' s'.H w
theorem Le.refl{N:Nat}(s:St):Le N s s:=fun σ β _ _ h=>⟨σ,β,h,Later.refl _ _ _ _⟩
theorem Le.of_eq{N:Nat}{s s':St}(h:s=s'):Le N s s':=h▸Le.refl s
theorem Le.trans{N:Nat}{s s' s'':St}(h:Le N s s')(h':Le N s' s''):Le N s s'':=fun σ β a w hr=>
 let ⟨σ',β',h1,h2⟩:=h σ β a w hr;let ⟨σ'',β'',h3,h4⟩:=h' σ' β' a w h1
 ⟨σ'',β'',h3,h2.trans h4⟩
theorem Cq{N:Nat}{s s':St}(hsl:∀i,getS s'.sl i=getS s.sl i\/getS s'.sl i=.p .any)(hH:s'.H.Sublist s.H):Le N s s':=fun σ β a w h=>
 ⟨σ,β,⟨h.size,h.defers,fun i=>by
   rcases hsl i with e|e
   ·rw[e];exact h.slots i
   ·rw[e];exact .p (.any _),⟨h.heap.mem,fun k c hc=>h.heap.chunks k c (hH.subset hc),(hH.map _).nodup h.heap.nodup,
    fun k hk=>h.heap.apart k ((hH.map _).subset hk),fun k hk k' hk'=>h.heap.inj k ((hH.map _).subset hk) k' ((hH.map _).subset hk')⟩⟩,
  Mem.le_refl σ,Frm.refl _ _,fun _ h0 h1=>absurd h0 h1,fun b ⟨k,hk,r⟩=>.inl ⟨k,(hH.map _).subset hk,r⟩,fun _ _ _=>rfl⟩
theorem RepL.hdI{σ:Mem}{β:Lab}{off len:Nat}(h:RepL σ β (.hd k off len) v):
  (β k=none/\off=0/\len=0/\v=.slice none 0 0)\/
  ∃i o,β k=some i/\off+len<=i.cap/\(o=off*i.sz\/(i.cap=off/\0<off))/\v=.slice (some ⟨i.blk,o,none⟩) len (i.cap-off):=by
 cases h with
 |hdn _ hk=>exact .inl ⟨hk,rfl,rfl,rfl⟩
 |hd _ _ _ i o hk hl ho=>exact .inr ⟨i,o,hk,hl,ho,rfl⟩
structure RepE(σ:Mem)(sz:Nat)(es:List AV)(vs:List Value):Prop where
 len:vs.length=es.length*sz
 size:∀(i:Nat)(e:AV),es[i]?=some e->e.cells.length=sz
 rep:∀(i:Nat)(e:AV)(j:Nat)(c:AV),es[i]?=some e->e.cells[j]?=some c->∃u:Value,vs[i*sz+j]?=some u/\Rep σ c u
theorem An{i j n sz:Nat}(hi:i<n)(hj:j<sz):i*sz+j<n*sz:=by
 have:(i+1)*sz<=n*sz:=x4s _ hi;rw[x5d]at this;omega
theorem RepE.nil(σ:Mem)(sz:Nat):RepE σ sz [] []:=⟨by simp,by simp,by simp⟩
theorem RepE.append{σ:Mem}{sz:Nat}{es xs:List AV}{v2:List Value}(h1:RepE σ sz es v1)(h2:RepE σ sz xs v2):RepE σ sz (es++xs) (v1++v2):=by
 refine⟨by simp[h1.len,h2.len,x5d],fun i e hi=>?_,fun i e j c hi hj=>?_⟩
 ·rw[x6c]at hi;split at hi
  ·exact h1.size i e hi
  ·exact h2.size _ e hi
 ·rw[x6c]at hi;split at hi
  ·rename_i hlt;obtain⟨u,hu,hr⟩:=h1.rep i e j c hi hj;have:i*sz+j<v1.length:=(x2o.1 hu).1;exact⟨u,by rw[x4p this];exact hu,hr⟩
  ·rename_i hge;obtain⟨u,hu,hr⟩:=h2.rep _ e j c hi hj;refine⟨u,?_,hr⟩;have:v1.length<=i*sz+j:=by
    rw[h1.len];have:es.length*sz<=i*sz:=x4s _ (by omega);omega
   rw[x4u this,h1.len];rw[show i*sz+j-es.length*sz=(i-es.length)*sz+j by rw[Nat.sub_mul];have:es.length*sz<=i*sz:=x4s _ (by omega);omega];exact hu
theorem ZL{σ:Mem}{β:Lab}{w:World}{e:TypeId}{sz:Nat}{es:List AV}:
  (Chunk.own e sz es).holds σ β w k↔(β k=none/\es=[])\/∃i vs,β k=some i/\i.sz=sz/\w.heap[i.blk]?=some (.cells vs e (0,0))/\
    vs.size=i.cap*sz/\es.length<=i.cap/\i.cap<=maxLen/\RepE σ sz es (vs.toList.take (es.length*sz)):=by
 constructor
 ·rintro(h|⟨i,vs,h1,h2,h3,h4,h5,h6,hc⟩)
  ·exact .inl h
  ·have hle:es.length*sz<=vs.size:=by rw[h4];exact x4s _ h5
   refine .inr ⟨i,vs,h1,h2,h3,h4,h5,h6,by simp;omega,fun m x hx=>(hc m x hx).1,fun m x j c hx hj=>?_⟩;obtain⟨u,hu,hr⟩:=(hc m x hx).2 j c hj;refine⟨u,?_,hr⟩;have hm:m<es.length:=(x2o.1 hx).1;have hj':j<sz:=by rw[<-(hc m x hx).1];exact(x2o.1 hj).1
   rw[x4g,if_pos (An hm hj')];simpa using hu
 ·rintro(h|⟨i,vs,h1,h2,h3,h4,h5,h6,hE⟩)
  ·exact .inl h
  ·refine .inr ⟨i,vs,h1,h2,h3,h4,h5,h6,fun m x hx=>⟨hE.size m x hx,fun j c hj=>?_⟩⟩;obtain⟨u,hu,hr⟩:=hE.rep m x j c hx hj;rw[x4g]at hu;split at hu
   ·exact⟨u,by simpa using hu,hr⟩
   ·cases hu
def LV.kill(k:Nat)(l:LV):LV:=bif l.free k then l else .p .any
theorem LV.kill_free(k:Nat)(l:LV):(l.kill k).free k=true:=by
 unfold LV.kill;cases h:l.free k
 ·rfl
 ·exact h
theorem RepL.kill{σ:Mem}{β:Lab}{l:LV}{v:Value}(h:RepL σ β l v)(k:Nat):RepL σ β (l.kill k) v:=by
 unfold LV.kill;cases l.free k
 ·exact .p (.any _)
 ·exact h
def Chunk.kill(k:Nat):Chunk->Chunk
 |.obj e cs=>.obj e (cs.map (LV.kill k))
 |.own e sz es=>.own e sz es
 |.ext d=>.ext d
theorem Chunk.kill_free(k:Nat)(c:Chunk):(c.kill k).free k=true:=by
 cases c with
 | obj e cs=>
   simp only[Chunk.kill,Chunk.free];induction cs with
   |nil=>rfl
   |cons l r ih=>simp only[x3l,LV.free.freeAll,LV.kill_free,Bool.true_and];exact ih
 |own e sz es=>rfl
 |ext d=>rfl
theorem Chunk.holds.kill{σ:Mem}{β:Lab}{w:World}{j:Nat}{c:Chunk}(h:c.holds σ β w j)(k:Nat):(c.kill k).holds σ β w j:=by
 cases c with
 | obj e cs=>
   obtain⟨i,vs,hi,hh,hn,hc⟩:=h;refine⟨i,vs,hi,hh,by simpa using hn,fun j l hj=>?_⟩;rw[x2e]at hj;cases hq:cs[j]?with
   |none=>rw[hq]at hj;cases hj
   | some l'=>
     rw[hq]at hj;cases hj;obtain⟨u,h1,h2⟩:=hc j l' hq;exact⟨u,h1,h2.kill k⟩
 |own e sz es=>exact h
 |ext d=>exact h
theorem Nv{σ:Mem}{β:Lab}{H:Heap}{w w':World}(h:HRel σ β H w)(hpk:k<1000\/2000<=k)(hk:k∈H.map (·.1))(hf:Frm (fun b=>∃i,β k=some i/\i.has b) w w'){i':Option BInfo}(hi':∀i,i'=some i->∀b,i.has b->b<w'.heap.size/\((∃i0,β k=some i0/\i0.has b)\/w.heap.size<=b)){H':Heap}(hH:H'.map (·.1)=H.map (·.1))(hold:∀j c,(j,c)∈H'->j≠k->c.free k=true/\c.holds σ β w j)(hnew:∀c,(k,c)∈H'->c.holds σ (β.set k i') w' k):
  HRel σ (β.set k i') H' w'/\Later σ β H w σ (β.set k i') H' w':=by
 have hset:∀j,j≠k->(β.set k i') j=β j:=fun j hj=>by simp[Lab.set,hj]
 have hsetk:(β.set k i') k=i':=by simp[Lab.set]
 have hpin:∀j,1000<=j->j<2000->(β.set k i') j=β j:=fun j h0 h1=>hset j (by omega);have hfr:∀b,σ b≠none->w'.heap[b]?=w.heap[b]?:=fun b hb=>by
  cases hs:σ b with
  |none=>exact absurd hs hb
  | some c=>
    obtain⟨e,fr,hh⟩:=h.mem b c hs;refine hf.block b (x3r.1 hh).1 ?_;rintro⟨i,hi,hib⟩;exact hb (h.apart k hk i hi b hib).1
 have hoth:∀j∈H.map (·.1),j≠k->∀i,β j=some i->∀b,i.has b->w'.heap[b]?=w.heap[b]?:=fun j hj hne i hi b hb=>by
  refine hf.block _ (h.apart j hj i hi b hb).2 ?_;rintro⟨i0,hi0,he⟩;exact hne (h.inj j hj k hk i i0 hi hi0 b hb he)
 refine⟨⟨fun b c hb=>?_,fun j c hj=>?_,by rw[hH];exact h.nodup,fun j hj i hi b hb=>?_,fun j hj j' hj' i1 i2 h1 h2 b hb1 hb2=>?_⟩,Mem.le_refl σ,
  ⟨hf.os,hf.tape,hf.output,hf.drawn,hf.size,fun b hb hn=>hf.block b hb fun⟨i,hi,he⟩=>hn ⟨k,hk,i,hi,he⟩⟩,fun b h0 h1=>absurd h0 h1,fun b hb=>?_,hpin⟩
 ·obtain⟨e,fr,hh⟩:=h.mem b c hb;exact⟨e,fr,(hfr b (by simp[hb])).trans hh⟩
 ·by_cases hjk:j=k
  ·subst hjk;exact hnew c hj
  ·obtain⟨h1,h2⟩:=hold j c hj hjk;have hjm:j∈H.map (·.1):=hH▸x3q.2 ⟨_,hj,rfl⟩;exact(h2.mono (Mem.le_refl σ) (hoth j hjm hjk)).set _ hjk h1
 ·by_cases hjk:j=k
  ·subst hjk;rw[hsetk]at hi;obtain⟨h1,h2⟩:=hi' i hi b hb;refine⟨?_,h1⟩;rcases h2 with⟨i0,h3,h4⟩|h2
   ·exact(h.apart _ hk i0 h3 b h4).1
   ·cases hs:σ b with
    |none=>rfl
    | some c=>
      obtain⟨e,fr,hh⟩:=h.mem _ c hs;have:=(x3r.1 hh).1;omega
  ·rw[hset j hjk]at hi;have:=h.apart j (hH▸hj) i hi b hb;exact⟨this.1,x6a this.2 hf.size⟩
 ·have aux:∀j∈H.map (·.1),j≠k->∀i1 i2,β j=some i1->i'=some i2->∀b,i1.has b->¬i2.has b:=fun j hj hne i1 i2 h1 h2 b hb1 hb2=>by
   obtain⟨_,h3⟩:=hi' i2 h2 b hb2;rcases h3 with⟨i0,h4,h5⟩|h3
   ·exact hne (h.inj j hj k hk i1 i0 h1 h4 b hb1 h5)
   ·have:=(h.apart j hj i1 h1 b hb1).2;omega
  by_cases hjk:j=k<;>by_cases hjk':j'=k
  ·rw[hjk,hjk']
  ·subst hjk;rw[hsetk]at h1;rw[hset j' hjk']at h2;exact absurd hb1 (aux j' (hH▸hj') hjk' i2 i1 h2 h1 b hb2)
  ·subst hjk';rw[hsetk]at h2;rw[hset j hjk]at h1;exact absurd hb2 (aux j (hH▸hj) hjk i1 i2 h1 h2 b hb1)
  ·rw[hset j hjk]at h1;rw[hset j' hjk']at h2;exact h.inj j (hH▸hj) j' (hH▸hj') i1 i2 h1 h2 b hb1 hb2
 ·obtain⟨j,hj,i,hi,hb⟩:=hb;by_cases hjk:j=k
  ·subst hjk;rw[hsetk]at hi;rcases(hi' i hi b hb).2 with⟨i0,h3,h4⟩|h3
   ·exact .inl ⟨j,hk,i0,h3,h4⟩
   ·exact .inr h3
  ·rw[hset j hjk]at hi;exact .inl ⟨j,hH▸hj,i,hi,hb⟩
theorem S3{P:Program}{σ:Mem}{β:Lab}{w:World}{e:TypeId}{ie:TyI}{es xs:List AV}(t ty:TypeId)(ht:P.underlying t=some (.slice e))(hie:TyOK P e ie)(hz:ie.zero.cells.size=ie.size)(hown:(Chunk.own e ie.size es).holds σ β w k)(hv:RepL σ β (.hd k 0 es.length) v){x:Value}{news:List Value}(hx:(x=.slice none 0 0/\news=[])\/∃ad c,x=.slice (some ad) xs.length c/\∀(j:Nat)(u:Value),news[j]?=some u->w.cell? (ad.add j)=some u)(hnews:RepE σ ie.size xs news)(h1:∀u∈news,u.oneCell'=true)(h63:es.length+xs.length<=maxLen)(hbytes:(es.length+xs.length)*ie.bytes<=140737488355328)(hpos:0<ie.size)(hlt:∀i,β k=some i->∀b,i.has b->b<w.heap.size):
  ∃v' w' i',(Builtin.append_ #[t,t] ty #[v,x]).run P w=.ok v' w'/\Frm (fun b=>∃i,β k=some i/\i.has b) w w'/\
   (∀i,i'=some i->∀b,i.has b->b<w'.heap.size/\((∃i0,β k=some i0/\i0.has b)\/w.heap.size<=b))/\
   (Chunk.own e ie.size (es++xs)).holds σ (β.set k i') w' k/\RepL σ (β.set k i') (.hd k 0 (es.length+xs.length)) v':=by
 obtain⟨fi,hfi,hfs,hfb,hfz⟩:=hie.getInfo;have hsetk:∀i':Option BInfo,(β.set k i') k=i':=fun i'=>by simp[Lab.set]
 have hmax:(es.length+xs.length:Nat)<=(9223372036854775807:Int):=by simp only[maxLen]at h63;omega
 have stay:xs=[]->∃v' w' i',(Result.ok v w:Result Value)=.ok v' w'/\Frm (fun b=>∃i,β k=some i/\i.has b) w w'/\
   (∀i,i'=some i->∀b,i.has b->b<w'.heap.size/\((∃i0,β k=some i0/\i0.has b)\/w.heap.size<=b))/\
   (Chunk.own e ie.size (es++xs)).holds σ (β.set k i') w' k/\RepL σ (β.set k i') (.hd k 0 (es.length+xs.length)) v':=fun hx0=>by
  subst hx0;have hb:β.set k (β k)=β:=by funext j;unfold Lab.set;split<;>simp_all
  refine⟨v,w,β k,rfl,Frm.refl _ _,fun i hi b hb=>⟨hlt i hi b hb,.inl ⟨i,hi,hb⟩⟩,?_,?_⟩
  ·rw[hb];simpa using hown
  ·rw[hb];simpa using hv
 have fresh:∀(old:Nat)(olds:List Value),RepE σ ie.size es olds->old<es.length+xs.length->
   Frm (fun b=>∃i,β k=some i/\i.has b) w (w.drew.alloc (.cells (olds.toArray++news.toArray++Builtin.zeroCells ie.zero.cells (grownCap w (es.length+xs.length) old e-(es.length+xs.length))) e))/\
   ∃i',(∀i,i'=some i->∀b,i.has b->b<(w.drew.alloc (.cells (olds.toArray++news.toArray++Builtin.zeroCells ie.zero.cells (grownCap w (es.length+xs.length) old e-(es.length+xs.length))) e)).heap.size/\((∃i0,β k=some i0/\i0.has b)\/w.heap.size<=b))/\
   (Chunk.own e ie.size (es++xs)).holds σ (β.set k i') (w.drew.alloc (.cells (olds.toArray++news.toArray++Builtin.zeroCells ie.zero.cells (grownCap w (es.length+xs.length) old e-(es.length+xs.length))) e)) k/\
   RepL σ (β.set k i') (.hd k 0 (es.length+xs.length)) (.slice (some ⟨w.heap.size,0,none⟩) (es.length+xs.length) (grownCap w (es.length+xs.length) old e)):=fun old olds hE ho=>by
  have hge:=grownCap_ge w (es.length+xs.length) old e;have hcm:=grownCap_le_maxLen w (es.length+xs.length) old e h63;generalize grownCap w (es.length+xs.length) old e=cap at hge hcm⊢;have hsz:(w.drew.alloc (.cells (olds.toArray++news.toArray++Builtin.zeroCells ie.zero.cells (cap-(es.length+xs.length))) e)).heap.size=w.heap.size+1:=by
   show(w.heap.push _).size=_;simp
  have hAll:=hE.append hnews;have hnew:(w.drew.alloc (.cells (olds.toArray++news.toArray++Builtin.zeroCells ie.zero.cells (cap-(es.length+xs.length))) e)).heap[w.heap.size]?=some (.cells (olds.toArray++news.toArray++Builtin.zeroCells ie.zero.cells (cap-(es.length+xs.length))) e (0,0)):=heap_alloc_new w.drew _;refine⟨⟨rfl,rfl,rfl,Nat.le_succ _,by omega,fun b hb _=>heap_alloc_old w.drew _ b hb⟩,some ⟨w.heap.size,cap,ie.size,[],hcm⟩,fun i hi b hb=>?_,ZL.2 (.inr ⟨⟨w.heap.size,cap,ie.size,[],hcm⟩,_,hsetk _,rfl,hnew,?_,by simpa using hge,hcm,?_⟩),?_⟩
  ·cases hi;rw[MM]at hb;exact⟨by omega,.inr (by omega)⟩
  ·simp only[Array.size_append,x6l,size_zeroCells,hz,hE.len,hnews.len];rw[<-x5d,<-x5d];congr 1;omega
  ·rw[show(olds.toArray++news.toArray++Builtin.zeroCells ie.zero.cells (cap-(es.length+xs.length))).toList.take ((es++xs).length*ie.size)=olds++news by
    rw[<-hAll.len];simp only[Array.toList_append];exact List.take_left]
   exact hAll
  ·have:=x9s (σ:=σ) (β:=β.set k (some ⟨w.heap.size,cap,ie.size,[],hcm⟩)) k 0 (es.length+xs.length) ⟨w.heap.size,cap,ie.size,[],hcm⟩ 0 (hsetk _) (by simpa using hge) (.inl (by simp));simpa using this
 rcases ZL.1 hown with⟨hb0,rfl⟩|⟨i,vs,hi,hisz,hh,hn,hlen,hcapm,hE⟩
 ·-- a nil row
  have hvn:v=.slice none 0 0:=by
   rcases hv.hdI with⟨_,_,_,h⟩|⟨i,_,hk,_⟩
   ·exact h
   ·rw[hb0]at hk;cases hk
  subst hvn;rcases hx with⟨rfl,rfl⟩|⟨ad,c,rfl,hcell⟩
  ·have hxs:xs=[]:=by
    have:=hnews.len;simp only[x7g]at this;rcases Nat.mul_eq_zero.1 this.symm with h|h
    ·exact x4e h
    ·omega
   obtain⟨v',w',i',he,rest⟩:=stay hxs;cases he;exact⟨_,_,i',run_append_owned_none w 0 t ty e fi ie.size ht hfi _ 0 [] (World.ownsRow_nil w 0 e ie.size),rest⟩
  ·by_cases hm:xs.length=0
   ·have hxs:xs=[]:=x4e hm;subst hxs;have hnn:news=[]:=x4e (by simpa using hnews.len);subst hnn;obtain⟨v',w',i',he,rest⟩:=stay rfl;cases he;refine⟨_,_,i',?_,rest⟩;simp[Builtin.append_,run_underlying ht,sizeOf,typeInfo,hfi,Builtin.lenOf,Builtin.firstCells,loadCells,loadCellsFrom]
   ·have hr:=run_append_nil (P:=P) w t ty e fi ie.zero ht hfi hfz ad xs.length c news (by rw[hfs];exact hnews.len) hcell (by omega) (by simp at hmax;omega) (by rw[hfb];simp at hbytes;omega);obtain⟨h2,i',h3,h4,h5⟩:=fresh 0 [] (RepE.nil σ ie.size) (by omega);simp only[x7g,x5m,Array.empty_append]at h2 h3 h4 h5⊢;exact⟨_,_,i',hr,h2,h3,h4,h5⟩
 ·have hvs:∃cap,v=.slice (some ⟨i.blk,0,none⟩) es.length i.cap/\cap=i.cap:=by
   rcases hv.hdI with⟨hk,_⟩|⟨i',o,hk,hl,ho,h⟩
   ·rw[hi]at hk;cases hk
   ·rw[hi]at hk;cases hk;rcases ho with ho|ho
    ·exact⟨i.cap,by rw[h,ho];simp,rfl⟩
    ·omega
  obtain⟨_,hv',_⟩:=hvs;subst hv';rcases hx with⟨rfl,rfl⟩|⟨ad,c,rfl,hcell⟩
  ·have hxs:xs=[]:=by
    have:=hnews.len;simp only[x7g]at this;rcases Nat.mul_eq_zero.1 this.symm with h|h
    ·exact x4e h
    ·omega
   obtain⟨v',w',i',he,rest⟩:=stay hxs;cases he;refine⟨_,_,i',run_append_owned_none w 0 t ty e fi ie.size ht hfi _ es.length (vs.toList.take (es.length*ie.size)) ⟨hE.len,.inr ⟨i.blk,i.cap,vs,rfl,x3z _,hh,hlen,hcapm,hn,rfl⟩⟩,rest⟩
  ·by_cases hroom:es.length+xs.length<=i.cap
   ·have hfit:es.length*fi.size+news.length<=vs.size:=by rw[hfs,hnews.len,hn,<-x5d];exact x4s _ hroom
    have hr:=run_append_room (P:=P) w t ty e fi ht hfi i.blk es.length i.cap vs hh ad xs.length c news (by rw[hfs];exact hnews.len) hcell h1 hroom hfit;have hb:β.set k (some i)=β:=by funext j;unfold Lab.set;split<;>simp_all
    refine⟨_,_,some i,hr,⟨rfl,rfl,rfl,x3g _,by simp,fun b _ hnb=>setRow_other w i.blk b _ fun he=>hnb ⟨i,hi,.inl he.symm⟩⟩,fun i1 h1 b hb=>?_,?_,?_⟩
    ·cases h1;exact⟨by simpa using hlt i hi b hb,.inl ⟨i,hi,hb⟩⟩
    ·rw[hb];refine ZL.2 (.inr ⟨i,_,hi,hisz,setRow_heap w i.blk vs _ e _ hh,?_,by simpa using hroom,hcapm,?_⟩)
     ·rw[hfs];simp only[x6l,x2s,x3m,x5f,x5b];rw[hfs]at hfit;omega
     ·rw[hfs];have hAll:=hE.append hnews;rw[show(vs.toList.take (es.length*ie.size)++news++vs.toList.drop (es.length*ie.size+news.length)).toArray.toList.take ((es++xs).length*ie.size)=vs.toList.take (es.length*ie.size)++news by
       rw[<-hAll.len];simp only[List.take_left]]
      exact hAll
    ·rw[hb];have:=x9s (σ:=σ) (β:=β) k 0 (es.length+xs.length) i 0 hi (by simpa using hroom) (.inl (by simp));simpa using this
   ·have holds:∀(j:Nat)(u:Value),(vs.toList.take (es.length*ie.size))[j]?=some u->w.cell? ((⟨i.blk,0,none⟩:Addr).add j)=some u:=fun j u hu=>by
     rw[JP];rw[x4g]at hu;split at hu
     ·simp[World.cell?,hh];simpa using hu
     ·cases hu
    have hr:=run_append_grow (P:=P) w t ty e fi ie.zero ht hfi hfz ⟨i.blk,0,none⟩ es.length i.cap (vs.toList.take (es.length*ie.size)) (by rw[hfs];exact hE.len) holds ad xs.length c news (by rw[hfs];exact hnews.len) hcell (by omega) hmax (by rw[hfb];exact growslice_fits (by omega) hbytes);obtain⟨h2,i',h3,h4,h5⟩:=fresh i.cap _ hE (by omega);exact⟨_,_,i',hr,h2,h3,h4,h5⟩
structure OpK(P:Program)(N:Nat)(s:St)(o:Oper)(K:St->Prop):Prop where
 ok:∀(σ:Mem)(β:Lab)(a:Act)(w:World),Rel N σ β s a w->∀Q,o.wp P a w (fun a' w'=>∃σ' β' s',K s'/\Rel N σ' β' s' a' w'/\Later σ β s.H w σ' β' s'.H w') Q
structure CallK(P:Program)(N:Nat)(g:FuncId)(args:List LV)(dst:Option Nat)(s:St)(K:St->Prop):Prop where
 ok:∀(σ:Mem)(β:Lab)(a:Act)(w:World),Rel N σ β s a w->∀vals:Array Value,vals.size=args.length->(∀(j:Nat)(l:LV),args[j]?=some l->RepL σ β l (vals.getD j undef))->
  (∀w',(callFunc g vals).run P w'=.ok (.enter g vals) w')/\
  Calls P g vals w fun e w'=>∃u σ' β' s',e=.returned u/\K s'/\Rel N σ' β' s' (a.put dst u) w'/\Later σ β s.H w σ' β' s'.H w'
def YF(l:LV)(K:LV->Prop):Prop:=
 match l with
 |.p a=>K (.p a)
 |.ptr k o=>K (.ptr k o)
 |.hd k o n=>K (.hd k o n)
 |.agg vs=>K (.agg vs)
 |.tup vs=>K (.tup vs)
 |.ext k d=>K (.ext k d)
theorem XW(l:LV)(K:LV->Prop):YF l K=K l:=by cases l<;>rfl
def DZ:List LV->(List LV->Prop)->Prop
 |[],K=>K []
 |l::r,K=>YF l fun l=>DZ r fun r=>K (l::r)
theorem WS:∀(l:List LV)(K:List LV->Prop),DZ l K=K l
 |[],_=>rfl
 |l::r,K=>by simp only[DZ,XW,WS r]
def HO:Nat->Nat->St->(Nat->Prop)->Prop
 |0,_,_,_=>False
 |f+1,k,s,K=>bif WU k s then K k else HO f (k+1) s K
theorem UP:∀{f k:Nat}{s:St}{K:Nat->Prop},HO f k s K->∃j,WU j s=true/\K j
 |0,_,_,_,h=>h.elim
 | f+1,k,s,K,h=>by
   simp only[HO]at h;cases hu:WU k s with
   |true=>rw[hu]at h;exact⟨k,hu,h⟩
   |false=>rw[hu]at h;exact UP h
def setD(N:Nat)(sl:List (Nat×LV))(d:Option Nat)(v:LV)(K:List (Nat×LV)->Prop):Prop:=
 match d with
 |none=>K sl
 |some d=>bif blt d N then q3e sl d v K else False
theorem Ex{N:Nat}{sl:List (Nat×LV)}{d:Option Nat}{v:LV}{K:List (Nat×LV)->Prop}(h:setD N sl d v K):
  (d=none/\K sl)\/∃d',d=some d'/\d'<N/\K (Mc sl d' v):=by
 cases d with
 |none=>exact .inl ⟨rfl,h⟩
 | some d=>
   simp only[setD]at h;cases hb:blt d N with
   | true=>
     rw[hb,x3p,Ye]at h;exact .inr ⟨d,rfl,by simpa[blt,Nat.lt_iff_add_one_le]using hb,h⟩
   |false=>rw[hb]at h;exact h.elim
theorem Rel.setD{N:Nat}{σ:Mem}{β:Lab}{s:St}{a:Act}{w:World}(h:Rel N σ β s a w){d:Option Nat}{v:LV}{u:Value}(hv:RepL σ β v u){K:List (Nat×LV)->Prop}(hK:setD N s.sl d v K):
  ∃sl,K sl/\Rel N σ β ⟨sl,s.H⟩ (a.put d u) w:=by
 rcases Ex hK with⟨rfl,hK⟩|⟨d',rfl,hd,hK⟩
 ·exact⟨_,hK,h⟩
 ·exact⟨_,hK,h.put hd hv⟩
def K1:Heap->Nat->Chunk->(Heap->Prop)->Prop
 |[],_,_,_=>False
 |(j,c)::r,k,d,K=>bif j==k then K ((k,d)::r)else K1 r k d fun r=>K ((j,c)::r)
def Yz:List (Nat×LV)->Nat->(List (Nat×LV)->Prop)->Prop
 |[],_,K=>K []
 |(j,l)::r,k,K=>YF (l.kill k) fun l=>Yz r k fun r=>K ((j,l)::r)
def DB:Heap->Nat->Chunk->(Heap->Prop)->Prop
 |[],_,_,K=>K []
 | (j,c)::r,k,d,K=>bif j==k then DB r k d fun r=>K ((k,d)::r)else
   match c with
   |.obj e cs=>DZ (cs.map (LV.kill k)) fun cs=>DB r k d fun r=>K ((j,.obj e cs)::r)
   |.own e sz es=>DB r k d fun r=>K ((j,.own e sz es)::r)
   |.ext x=>DB r k d fun r=>K ((j,.ext x)::r)
inductive AppK(es xs:List AV)(n m sz bytes:Nat)(K:Prop):Prop
 |mk (hn:n=es.length) (hm:m=xs.length) (hb:(n+m)*bytes<=140737488355328) (h63:n+m<=maxLen) (hx:∀x∈xs,x.cells.length=sz/\x.cells.all AV.one=true) (hK:K)
inductive BsK(es:List AV)(sz:Nat)(out:List LV)(Kp Ko:Prop):Prop
 |pure (hx:∀x∈es,x.cells.length=sz) (ho:out=(es.flatMap AV.cells).map .p) (hK:Kp)
 |own (hx:∀x∈es,x.cells.length=sz) (ho:out=(es.flatMap AV.cells).map .p) (hK:Ko)
inductive MkK(l:Int)(bytes:Nat)(K:Nat->Prop):Prop
 |mk (n:Nat) (hn:l=n) (hb:bytes*n<=140737488355328) (h63:n<=maxLen) (hK:K n)
inductive StOwn(es:List AV)(sz off:Nat)(vs:List AV)(K:List AV->Prop):Prop
 |mk (m j:Nat) (e e':AV) (ho:off=m*sz+j) (he:es[m]?=some e) (hfit:j+vs.length<=sz) (he':e'.cells=e.cells.take j++vs++e.cells.drop (j+vs.length)) (hK:K (es.set m e'))
def isV:Op->Bool
 |.move _ |.assign _ |.pick .. |.fieldAddr .. |.load .. |.nilCheck _ |.binOp .. |.unOp .. |.convert .. |.slice .. |.field .. |.indexAddr .. |.index .. |.extract .. |.build .. |.makeFunc .. => true
 |.call {callee:=.builtin .len,..} |.call {callee:=.builtin .cap,..}=>true
 |_=>false
def q5y(k:Nat)(A:Prop):Prop:=bif ble 1000 k then bif blt k 2000 then False else A else A
theorem M2{A:Prop}(h:q5y k A):(k<1000\/2000<=k)/\A:=by
 unfold q5y at h;cases h1:ble 1000 k with
 | false=>
   rw[h1,x3t]at h;exact⟨.inl (by rw[<-x8q,x8c]at h1;omega),h⟩
 | true=>
   rw[h1,x3p]at h;cases h2:blt k 2000 with
   |true=>rw[h2]at h;exact h.elim
   | false=>
     rw[h2,x3t]at h;exact⟨.inr (by rw[<-x8q]at h2;simp only[blt,x8c]at h2;omega),h⟩
def Fq(N:Nat)(s:St)(d:Option Nat)(k:Nat)(e sz n:Nat)(es xs:List AV)(m bytes:Nat)(K:St->Prop):Prop:=
 AppK es xs n m sz bytes (q5y k <|Yz s.sl k fun sl=>DB s.H k (.own e sz (es++xs)) fun H=>setD N sl d (.hd k 0 (n+m)) fun sl=>K ⟨sl,H⟩)
def q1m(sl:List (Nat×LV))(H:Heap)(x:Operand)(K:List AV->Nat->Prop):Prop:=
 match QM sl x with
 |.p (.sl xs)=>K xs xs.length
 |.p .nils=>K [] 0
 | .hd k2 0 m=>match getH H k2 with
   |some (.own _ _ xs)=>K xs m
   |_=>False
 |_=>False
def opW(P:Program)(T:Tab)(N:Nat)(s:St)(o:Oper)(K:St->Prop):Prop:=
 match o.op with
 | .alloc e=>match T.get e with
   | some i=>match WD (.p (AV.ofV i.zero))with
     |some cs=>DZ cs fun cs=>HO 60 0 s fun k=>setD N s.sl o.dst (.ptr k 0) fun sl=>K ⟨sl,(k,.obj e cs)::s.H⟩
     |none=>False
   |none=>False
 | .box e x=>match WD (QM s.sl x)with
   |some cs=>DZ cs fun cs=>HO 60 0 s fun k=>setD N s.sl o.dst (.ptr k 0) fun sl=>K ⟨sl,(k,.obj e cs)::s.H⟩
   |none=>False
 | .store t x v=>match QM s.sl x,WD (QM s.sl v),T.get t,o.dst with
   | .ptr k off,some vs,some i,none=>match getH s.H k with
     |some (.obj e cs)=>(vs.all LV.one&&(vs.length==i.size&&ble (off+vs.length) cs.length))=true/\
        DZ (cs.take off++vs++cs.drop (off+vs.length)) fun cs=>K1 s.H k (.obj e cs) fun H=>K ⟨s.sl,H⟩
     | some (.own e sz es)=>match P7 vs with
       |some us=>(us.all AV.one&&us.length==i.size)=true/\StOwn es sz off us fun es=>K1 s.H k (.own e sz es) fun H=>K ⟨s.sl,H⟩
       |none=>False
     |some (.ext _)=>OpK P N s o K
     |none=>False
   |_,_,_,_=>OpK P N s o K
 | .buildSlice t n parts=>match T.get t with
   | some {desc:=.slice e,..}=>match T.get e with
     | some ie=>match P7 (parts.toList.map fun x=>QM s.sl x.2),S9 (fun i=>some (i*ie.size,ie.size)) (List.replicate (n*ie.size) (.p .any)) (parts.toList.map fun x=>(x.1,QM s.sl x.2))with
       |some es,some out=>(n*ie.size<=16777216/\0<ie.size)/\BsK es ie.size out
          (es.length=n/\setD N s.sl o.dst (.p (.sl es)) fun sl=>K ⟨sl,s.H⟩)
          (es.length=n/\HO 60 0 s fun k=>setD N s.sl o.dst (.hd k 0 n) fun sl=>K ⟨sl,(k,.own e ie.size es)::s.H⟩)
       |_,_=>OpK P N s o K
     |none=>OpK P N s o K
   |_=>OpK P N s o K
 | .makeSlice t l c=>match T.get t,QM s.sl l,QM s.sl c with
   | some {desc:=.slice e,..},.p (.int _ l),.p (.int _ c)=>match T.get e with
     |some ie=>(l=c/\ie.zero.cells.size=ie.size/\0<ie.size)/\MkK l ie.bytes fun n=>HO 60 0 s fun k=>setD N s.sl o.dst (.hd k 0 n) fun sl=>K ⟨sl,(k,.own e ie.size (List.replicate n (AV.ofV ie.zero)))::s.H⟩
     |none=>False
   |_,_,_=>OpK P N s o K
 | .call { callee:=.builtin .append,args,argTypes}=>match args.toList,argTypes.toList with
   | [x,y],[t,t']=>match T.get t with
     | some {desc:=.slice e,..}=>match T.get e with
       | some ie=>(t=t'/\ie.zero.cells.size=ie.size/\0<ie.size)/\match QM s.sl x with
         | .hd k 0 n=>match getH s.H k with
           |some (.own e' sz es)=>(e'=e/\sz=ie.size)/\q1m s.sl s.H y fun xs m=>Fq N s o.dst k e ie.size n es xs m ie.bytes K
           |_=>False
         |.p .nils=>HO 60 0 s fun k=>q1m s.sl s.H y fun xs m=>Fq N ⟨s.sl,(k,.own e ie.size [])::s.H⟩ o.dst k e ie.size 0 [] xs m ie.bytes K
         |_=>OpK P N s o K
       |none=>False
     |_=>OpK P N s o K
   |_,_=>OpK P N s o K
 | .call {callee:=.value f,args,..}=>match QM s.sl f with
   |.p (.fn g caps)=>DZ (args.toList.map (QM s.sl)++caps.map .p) fun ls=>CallK P N g ls o.dst s K
   |_=>OpK P N s o K
 |_=>OpK P N s o K
section
variable {P:Program}{T:Tab}{N:Nat}{σ:Mem}{β:Lab}{a:Act}{w:World}{o:Oper}{K:St->Prop}{s:St}
def Lx(P:Program)(N:Nat)(σ:Mem)(β:Lab)(a:Act)(w:World)(s:St)(o:Oper)(K:St->Prop):Prop:=
 ∀Q,o.wp P a w (fun a' w'=>∃σ' β' s',K s'/\Rel N σ' β' s' a' w'/\Later σ β s.H w σ' β' s'.H w') Q
theorem Ud{k:Nat}:∀{ls:List LV},LV.free.freeAll k ls=true ↔ ∀l∈ls,l.free k=true
 |[]=>by simp[LV.free.freeAll]
 |l::r=>by simp[LV.free.freeAll,Ud (ls:=r)]
theorem RepC.set{ls:List LV}{vs:List Value}(h:RepC σ β ls vs){k:Nat}(i:Option BInfo)(hf:LV.free.freeAll k ls=true):RepC σ (β.set k i) ls vs:=
 ⟨h.1,fun j l hj=>let ⟨u,h1,h2⟩:=h.2 j l hj;⟨u,h1,h2.set i (XY hf j l hj)⟩⟩
theorem Kd(hk:WU k s=true)(x:Operand):(QM s.sl x).free k=true:=by
 cases x with
 |tmp t=>exact(XL hk).2 t
 |_=>rfl
theorem U8{l:LV}{ls:List LV}(h:WD l=some ls)(hf:l.free k=true):LV.free.freeAll k ls=true:=by
 have one:∀{l:LV},l.free k=true->(bif l.one then some [l]else none)=some ls->LV.free.freeAll k ls=true:=fun {l} hf h=>by
  cases ho:l.one with
  |false=>rw[ho]at h;cases h
  |true=>rw[ho]at h;cases h;simp[LV.free.freeAll,hf]
 cases l with
 | p a=>cases a with
   | agg cs=>
     simp only[WD,x6r]at h;subst h;rw[Ud];intro l hl;obtain⟨c,_,rfl⟩:=x3q.1 hl;rfl
   |raw x=>exact one (l:=.p (.raw x)) rfl h
   |_=>first|(simp[WD,LV.one,AV.one]at h;done)|(simp[WD,LV.one,AV.one]at h;subst h;rfl)
 |agg cs=>simp only[WD,x6r]at h;subst h;exact hf
 |ptr j o=>exact one hf h
 |hd j o n=>exact one hf h
 |ext j d=>exact one hf h
 |tup vs=>exact one hf h
theorem XS{w':World}{K':Act->World->Prop}{Q:Exit->Act->World->Prop}(hrun:(execOp a.eval o).run P w=.ok (.value v) w')(h:K' (a.put o.dst v) w'):o.wp P a w K' Q:=by
 unfold Oper.wp;rw[hrun];exact h
theorem Vb{w':World}{K':Act->World->Prop}{Q:Exit->Act->World->Prop}(hrun:(execOp a.eval o).run P w=.ok .skip w')(h:K' (a.put o.dst undef) w'):o.wp P a w K' Q:=by
 unfold Oper.wp;rw[hrun];exact h
theorem Tr(e:TypeId){cs:List LV}{vs:Array Value}(hrun:(execOp a.eval o).run P w=.ok (.value (.pointer (some ⟨w.heap.size,0,none⟩))) (w.alloc (.cells vs e)))(hr:Rel N σ β s a w)(hc:RepC σ β cs vs.toList)(hf:∀k,WU k s=true->LV.free.freeAll k cs=true)(h:HO 60 0 s fun k=>setD N s.sl o.dst (.ptr k 0) fun sl=>K ⟨sl,(k,.obj e cs)::s.H⟩):Lx P N σ β a w s o K:=by
 intro Q;obtain⟨k,hk,h⟩:=UP h;have hc':=hc.set (k:=k) (some ⟨w.heap.size,0,0,[],x3z _⟩) (hf k hk);have hchunk:(Chunk.obj e cs).holds σ (β.set k (some ⟨w.heap.size,0,0,[],x3z _⟩)) (w.alloc (.cells vs e)) k:=
  ⟨⟨w.heap.size,0,0,[],x3z _⟩,vs,by simp[Lab.set],heap_alloc_new w _,by simpa using hc.1,fun j l hj=>by
    obtain⟨u,h1,h2⟩:=hc'.2 j l hj;exact⟨u,by simpa using h1,h2⟩⟩
 obtain⟨hr',hl⟩:=hr.new hk rfl rfl hchunk;obtain⟨sl,hK,hr''⟩:=hr'.setD (RepL.ptr k 0 ⟨w.heap.size,0,0,[],x3z _⟩ (by simp[Lab.set])) h;exact XS hrun ⟨σ,_,_,hK,hr'',hl⟩
theorem Tt(e:TypeId){sz n:Nat}{es:List AV}{vs:Array Value}(hrun:(execOp a.eval o).run P w=.ok (.value (.slice (some ⟨w.heap.size,0,none⟩) n n)) (w.alloc (.cells vs e)))(hr:Rel N σ β s a w)(hn:es.length=n)(hvs:vs.size=n*sz)(hE:RepE σ sz es vs.toList)(h63:n<=maxLen)(h:HO 60 0 s fun k=>setD N s.sl o.dst (.hd k 0 n) fun sl=>K ⟨sl,(k,.own e sz es)::s.H⟩):Lx P N σ β a w s o K:=by
 intro Q;obtain⟨k,hk,h⟩:=UP h;have hchunk:(Chunk.own e sz es).holds σ (β.set k (some ⟨w.heap.size,n,sz,[],h63⟩)) (w.alloc (.cells vs e)) k:=by
  refine ZL.2 (.inr ⟨⟨w.heap.size,n,sz,[],h63⟩,vs,by simp[Lab.set],rfl,heap_alloc_new w _,hvs,by simp[hn],h63,?_⟩);have:vs.toList.take (es.length*sz)=vs.toList:=x3f (by simp[hvs,hn]);rw[this];exact hE
 obtain⟨hr',hl⟩:=hr.new hk rfl rfl hchunk;have hhd:=x9s (σ:=σ) (β:=β.set k (some ⟨w.heap.size,n,sz,[],h63⟩)) k 0 n ⟨w.heap.size,n,sz,[],h63⟩ 0 (by simp[Lab.set]) (by simp) (.inl (by simp));simp only[Nat.sub_zero]at hhd;obtain⟨sl,hK,hr''⟩:=hr'.setD hhd h;exact XS hrun ⟨σ,_,_,hK,hr'',hl⟩
theorem SD(hT:TabOK P T){e:TypeId}(hop:o.op=.alloc e)(h:opW P T N s o K)(hr:Rel N σ β s a w):Lx P N σ β a w s o K:=by
 simp only[opW,hop]at h;split at h<;>first|exact h.elim|skip
 rename_i i hi;split at h<;>first|exact h.elim|skip
 rename_i cs hcs;rw[WS]at h;have hok:=hT _ _ hi;refine Tr e (vs:=i.zero.cells) ?_ hr (BH (β:=β) (.p (Rep.ofV σ i.zero)) hcs) (fun k hk=>U8 hcs rfl) h;simp[execOp,hop,Instr.alloc,hok.zeroValue,newVar,newRow]
theorem OR{e:TypeId}{x:Operand}(hop:o.op=.box e x)(h:opW P T N s o K)(hr:Rel N σ β s a w):Lx P N σ β a w s o K:=by
 simp only[opW,hop]at h;split at h<;>first|exact h.elim|skip
 rename_i cs hcs;rw[WS]at h;refine Tr e (vs:=(a.eval x).cells) ?_ hr (BH (QZ hr.slots x) hcs) (fun k hk=>U8 hcs (Kd hk x)) h;simp[execOp,hop,Instr.box,newVar,newRow]
end
section
variable {P:Program}{T:Tab}{N:Nat}{σ:Mem}{β:Lab}{a:Act}{w:World}{o:Oper}{K:St->Prop}{s:St}
theorem JG:∀{H:Heap}{k:Nat}{c:Chunk}{K:Heap->Prop},(H.map (·.1)).Nodup->K1 H k c K->
  ∃H',K H'/\H'.map (·.1)=H.map (·.1)/\(∀j d,(j,d)∈H'->j≠k->(j,d)∈H)/\∀d,(k,d)∈H'->d=c
 |[],_,_,_,_,h=>h.elim
 | (j,d)::r,k,c,K,hn,h=>by
   simp only[K1]at h;simp only[x3l,x4r]at hn;by_cases hj:j=k
   ·subst hj;simp only[x6u,x3p]at h;refine⟨_,h,rfl,fun i e he hne=>?_,fun e he=>?_⟩
    ·rcases x2i.1 he with he|he
     ·cases he;exact absurd rfl hne
     ·exact x2c _ he
    ·rcases x2i.1 he with he|he
     ·cases he;rfl
     ·exact absurd (x3q.2 ⟨_,he,rfl⟩) hn.1
   ·have:(j==k)=false:=by simp[hj]
    rw[this,x3t]at h;obtain⟨H',hK,h1,h2,h3⟩:=JG hn.2 h;refine⟨_,hK,by simp[h1],fun i e he hne=>?_,fun e he=>?_⟩
    ·rcases x2i.1 he with he|he
     ·cases he;simp
     ·exact x2c _ (h2 i e he hne)
    ·rcases x2i.1 he with he|he
     ·cases he;exact absurd rfl hj
     ·exact h3 e he
theorem QN{H:Heap}{c:Chunk}(h:getH H k=some c):k∈H.map (·.1):=x3q.2 ⟨_,QG h,rfl⟩
theorem Hx{x v:Operand}(hop:o.op=.store t x v)(hd:o.dst=none)(hr:Rel N σ β s a w){off:Nat}{i:BInfo}(hi:β k=some i)(hx:a.eval x=.pointer (some ⟨i.blk,off,none⟩)){e:TypeId}{vs:Array Value}(hh:w.heap[i.blk]?=some (.cells vs e (0,0))){n:Nat}(hsz:∀w,(sizeOf t).run P w=.ok n w)(hvn:(a.eval v).cells.size=n)(hone:∀u∈(a.eval v).cells.toList,u.oneCell'=true)(hfit:off+n<=vs.size)(hk:k∈s.H.map (·.1)){c:Chunk}(hc:c.holds σ β (w.setRow i.blk (vs.toList.take off++(a.eval v).cells.toList++vs.toList.drop (off+n)).toArray) k)(h:K1 s.H k c fun H=>K ⟨s.sl,H⟩):Lx P N σ β a w s o K:=by
 intro Q;obtain⟨H',hK,h1,h2,h3⟩:=JG hr.heap.nodup h;have hrun:(execOp a.eval o).run P w=.ok .skip (w.setRow i.blk (vs.toList.take off++(a.eval v).cells.toList++vs.toList.drop (off+n)).toArray):=by
  have hst:=run_storeCells_at P i.blk off e (a.eval v).cells.toList 0 vs w hh (by simp;omega) hone;simp only[x8u,x5b,hvn]at hst;simp[execOp,hop,Instr.storeAt,Instr.sureAddr,hx,storeVar,hsz,hvn,hst]
 obtain⟨h4,h5⟩:=IB hr.heap hk hi h1 h2 (fun d hd=>h3 d hd▸hc);refine Vb hrun ⟨σ,β,⟨s.sl,H'⟩,hK,⟨?_,?_,?_,h4⟩,h5⟩
 ·rw[hd];exact hr.size
 ·rw[hd];exact hr.defers
 ·rw[hd];exact hr.slots
theorem RepC.one{ls:List LV}{vs:List Value}(h:RepC σ β ls vs)(h1:ls.all LV.one=true):∀u∈vs,u.oneCell'=true:=fun u hu=>by
 obtain⟨j,hj,rfl⟩:=x4t.1 hu;have hjl:j<ls.length:=by rw[<-h.1];exact hj
 obtain⟨u',h2,h3⟩:=h.2 j ls[j] (by simp[hjl]);rw[x2n hj]at h2;cases h2;exact h3.oneCell (x4d.1 h1 _ (x3w hjl))
theorem SB(hT:TabOK P T){x v:Operand}(hop:o.op=.store t x v)(h:opW P T N s o K)(hr:Rel N σ β s a w):Lx P N σ β a w s o K:=by
 simp only[opW,hop]at h;split at h
 ·rename_i k off vs i hx hv ht hd;have hx':=QZ hr.slots x;rw[hx]at hx';have hvc:=BH (QZ hr.slots v) hv;have hvlen:(a.eval v).cells.size=vs.length:=by have:=hvc.1;simpa using this
  split at h<;>first|exact h.elim|skip
  ·rename_i e cs hg;obtain⟨hb,h⟩:=h;rw[WS]at h;simp only[x3h,x6d,x8c]at hb;obtain⟨hb1,hb2,hb3⟩:=hb;obtain⟨bi,cur,hbi,hh,hn,hc⟩:=hr.heap.chunks k _ (QG hg);generalize hxe:a.eval x=xv at hx';cases hx' with
   | ptr _ _ bi' hk=>
     rw[hbi]at hk;cases hk;refine Hx (n:=vs.length) hop hd hr hbi hxe hh (fun w=>by rw[hb2];exact(hT _ _ ht).sizeOf w) hvlen (hvc.one hb1) (by omega) (QN hg) ?_ h;have hcc:RepC σ β cs cur.toList:=⟨by simpa using hn,fun j l hj=>by simpa using hc j l hj⟩;have hnew:=((hcc.take off).append hvc).append (hcc.drop (off+vs.length));exact⟨bi,_,hbi,setRow_heap w bi.blk cur _ e _ hh,by simpa using hnew.1,fun j l hj=>by simpa using hnew.2 j l hj⟩
  ·rename_i e sz es hg;split at h<;>first|exact h.elim|skip
   rename_i us hus;have hvs:=GG hus;subst hvs;obtain⟨hb,m,j,el,el',ho,he,hfit,he',h⟩:=h;simp only[x3h,x6d]at hb;obtain⟨hb1,hb2⟩:=hb;simp only[x2m]at hvlen;generalize hxe:a.eval x=xv at hx';cases hx' with
   | ptr _ _ bi hk=>
     rcases hr.heap.chunks k _ (QG hg)with h0|⟨bi',cur,hbi,hsz,hh,hn,hle,hmax,hc⟩
     ·rw[hk]at h0;cases h0.1
     ·rw [hk]at hbi;cases hbi;have hmlt:m<es.length:=(x2o.1 he).1;have hoff:off+us.length<=cur.size:=by
       have:(m+1)*sz<=bi.cap*sz:=x4s _ (by omega);rw[x5d]at this;omega
      refine Hx (n:=us.length) hop hd hr hk hxe hh (fun w=>by rw[hb2];exact(hT _ _ ht).sizeOf w) hvlen (hvc.one ?_) hoff (QN hg) ?_ h
      ·simp only[List.all_map];exact hb1
      ·refine .inr ⟨bi,_,hk,hsz,setRow_heap w bi.blk cur _ e _ hh,?_,by simpa using hle,hmax,fun q y hy=>?_⟩
       ·simp only[x6l,x2s,x3m,x5f,x5b,hvlen];omega
       ·have hel:=hc m el he;have helen:el'.cells.length=sz:=by
         rw[he'];simp only[x2s,x3m,x5f,hel.1];omega
        have cell:∀(p:Nat),(vs':List Value)->vs'=(cur.toList.take off++(a.eval v).cells.toList++cur.toList.drop (off+us.length))->
          (p<off->vs'[p]?=cur[p]?)/\(off<=p->p<off+us.length->vs'[p]?=(a.eval v).cells[p-off]?)/\(off+us.length<=p->vs'[p]?=cur[p]?):=fun p vs' hvs'=>by
         subst hvs';refine⟨fun h1=>?_,fun h1 h2=>?_,fun h1=>?_⟩
         ·rw[x3s,x4p (by simp;omega),x4g,if_pos h1];simp
         ·rw[x3s,x4u (by simp;omega),x4p (by simp;omega)];simp only[x3m,x5b,x6g];congr 1;omega
         ·rw[x4u (by simp;omega)];simp only[x2s,x3m,x5b,x4c,x6g,hvlen];congr 1;omega
        by_cases hq:m=q
        ·subst hq;rw[x5w hmlt]at hy;cases hy;refine⟨helen,fun n c hn'=>?_⟩;have hnlt:n<sz:=by rw[<-helen];exact(x2o.1 hn').1
         obtain⟨c1,c2,c3⟩:=cell (m*sz+n) _ rfl;simp only[x9v];rw[he']at hn';by_cases h1:n<j
         ·rw[c1 (by omega)];rw[x3s,x4p (by simp[hel.1];omega),x4g,if_pos h1]at hn';exact hel.2 n c hn'
         ·by_cases h2:n<j+us.length
          ·rw[c2 (by omega) (by omega)];rw[x3s,x4u (by simp[hel.1];omega),x4p (by simp[hel.1];omega)]at hn';have hjs:min j el.cells.length=j:=by rw[hel.1];omega
           simp only[x3m,hjs]at hn';obtain⟨u,h3,h4⟩:=hvc.2 (n-j) (.p c) (by simp[hn']);refine⟨u,?_,?_⟩
           ·rw[show m*sz+n-off=n-j by omega];simpa using h3
           ·cases h4 with
            |p h=>exact h
          ·rw[c3 (by omega)];rw[x4u (by simp[hel.1];omega)]at hn';have hjs:min j el.cells.length=j:=by rw[hel.1];omega
           simp only[x2s,x3m,hjs,x4c]at hn';rw[show j+us.length+(n-(j+us.length))=n by omega]at hn';exact hel.2 n c hn'
        ·rw[x5h hq]at hy;refine⟨(hc q y hy).1,fun n c hn'=>?_⟩;have hnlt:n<sz:=by rw[<-(hc q y hy).1];exact(x2o.1 hn').1
         obtain⟨c1,c2,c3⟩:=cell (q*sz+n) _ rfl;simp only[x9v];rcases Nat.lt_or_gt_of_ne hq with hlt|hgt
         ·have:(m+1)*sz<=q*sz:=x4s _ hlt;rw[x5d]at this;rw[c3 (by omega)];exact(hc q y hy).2 n c hn'
         ·have:(q+1)*sz<=m*sz:=x4s _ hgt;rw[x5d]at this;rw[c1 (by omega)];exact(hc q y hy).2 n c hn'
  ·exact h.ok σ β a w hr
 ·exact h.ok σ β a w hr
end
theorem x5i:type_of%@StOwn.mk:=@StOwn.mk
theorem x6y:type_of%@AppK.mk:=@AppK.mk
theorem x8v:type_of%@MkK.mk:=@MkK.mk
theorem x9b:type_of%@BsK.own:=@BsK.own
end Go.Ab
