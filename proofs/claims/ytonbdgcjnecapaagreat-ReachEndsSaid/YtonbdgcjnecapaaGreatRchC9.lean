/- tree, flat, scope: the names of an expression, of a statement; what a name is. -/
import Derived.Test.YtonbdgcjnecapaaGreatRchC6
import Derived.Test.YtonbdgcjnecapaaGreatRchC7
import Derived.Test.YtonbdgcjnecapaaGreatRchC8
set_option linter.all false
set_option maxRecDepth 100000
set_option maxHeartbeats 16000000
open Int (ofNat)
open List (drop_zero)
open Nat (mod_lt)
namespace Go.Ab
open Go.Proofs.Tryz
open Go.Proofs
variable {α:Type}{K:LV->Prop}{P:Program}{hr:Bool}{o:Oper}{s:St}{t u:TypeId}
def KC{es:List AV}{n:Nat}{K:Prop}(xs:List Str)(h:n=es.length)(k:es.length+xs.length<=8796093022208)(i:K):AppK es (xs.map .str) n (xs.map AV.str).length 1 16 K:=
 .mk h rfl (by rw[h];simp;omega) (by rw[h];simp[maxLen];omega) (fun x j=>by obtain⟨y,_,rfl⟩:=x0n.1 j;exact⟨rfl,rfl⟩) i
def XQ{es:List AV}{n:Nat}{K:Prop}{s:Str}(i:n=es.length)(k:es.length<=8796093022000)(h:K):AppK es [.str s] n 1 1 16 K:=
 .mk i rfl (by omega) (by simp only[maxLen];omega) (fun x j=>by rcases x0b.1 j with rfl;exact⟨rfl,rfl⟩) h
def XU{es:List AV}{n:Nat}{K:Prop}{s:Int}(i:n=es.length)(k:es.length<=8796093022000)(h:K):AppK es [.int .i64 s] n 1 1 8 K:=
 .mk i rfl (by omega) (by simp only[maxLen];omega) (fun x j=>by rcases x0b.1 j with rfl;exact⟨rfl,rfl⟩) h
mutual
def Pj:X->List Str->List Str
 |.mk op _ name kids,out=>DQ kids (if op=2/\(out.any fun s=>name==s)=false then out++[name]else out)
def DQ:List X->List Str->List Str
 |[],out=>out
 |x::r,out=>DQ r (Pj x out)
end
def Ma(x:X)(out:List Str):Pj x out=DQ x.kids (if x.op=2/\(out.any fun s=>x.name==s)=false then out++[x.name]else out):=by
 cases x;rw[Pj];rfl
def TL{l:List X}{j:Nat}{out:List Str}(h:j<l.length):DQ (l.drop j) out=DQ (l.drop (j+1)) (Pj l[j] out):=by
 rw[QB h,DQ]
def Cm{l:List X}{j:Nat}{out:List Str}(h:l.length<=j):DQ (l.drop j) out=out:=by
 rw[x1q h,DQ]
def Kv{n:Nat}{x:X}(h:VB (n+1) x=true):x.kids.length<=2/\(x.op=2->x.kids.length=0)/\∀k∈x.kids,VB n k=true:=by
 rw[VB]at h;simp only[x1z,x1n]at h;obtain⟨i,j⟩:=h;refine⟨?_,fun p=>?_,?_⟩
 .unfold Wo at i;(repeat' split at i)<;>omega
 .unfold Wo at i;rw[if_pos (by omega)]at i;omega
 .by_cases l:x.op=1
  .have:x.kids.length=0:=by unfold Wo at i;rw[if_pos (by omega)]at i;omega
   rw[x3z this];simp
  .by_cases m:x.op=2
   .have:x.kids.length=0:=by unfold Wo at i;rw[if_pos (by omega)]at i;omega
    rw[x3z this];simp
   .rw [if_neg l,if_neg m]at j;simp only[x1z]at j;exact x2w.1 j.2
def Cr:∀(n:Nat)(x:X)(out:List Str),VB n x=true->out.length<=(Pj x out).length/\(Pj x out).length<=out.length+2^n:=by
 intro n;induction n with
 |zero=>intro x out h;rw[VB]at h;cases h
 | succ n d=>
   intro x out h;obtain⟨y,z,a⟩:=Kv h;have key:∀(l:List X)(o:List Str),(∀k∈l,VB n k=true)->o.length<=(DQ l o).length/\(DQ l o).length<=o.length+l.length*2^n:=by
    intro l;induction l with
    |nil=>intro o _;simp[DQ]
    | cons k r p=>
      intro o q;rw[DQ];have c:=d k o (q k (by simp));have e:=p (Pj k o) fun k m=>q k (by simp[m]);simp only[x1r,x3q,Nat.one_mul];omega
   rw[Ma];have f:2^(n+1)=2*2^n:=by rw[Nat.pow_succ];omega
   have v:0<2^n:=Nat.pow_pos (by decide);have j:=key x.kids (if x.op=2/\(out.any fun s=>x.name==s)=false then out++[x.name]else out) a;have c:x.kids.length*2^n<=2*2^n:=x2z _ y;split at j
   .rename_i i;have:=z i.1;rw[this]at j;rw[if_pos i];simp only[x0g,x1h]at j;omega
   .rename_i i;rw[if_neg i];omega
def SU(t:Nat)(out:List Str):Heap:=[(2000,.own t 1 (out.map .str))]
def Jx:∀(n:Nat)(_:n<=20)(x:X)(_:VB n x=true)(out:List Str)(_:out.length+2^n<=1073741824),
  SpecH prog 223 [.p (.agg x.cells),.hd 2000 0 out.length] (SU 9 out) (fun r H=>r=.hd 2000 0 (Pj x out).length/\H=SU 9 (Pj x out)):=by
 intro n;induction n with
 |zero=>intro _ x h;rw[VB]at h;cases h
 | succ n A=>
   intro D x c out E;have F:2^(n+1)=2*2^n:=by rw[Nat.pow_succ];omega
   have d:0<2^n:=Nat.pow_pos (by decide);obtain⟨y,z,m⟩:=Kv c;have g:=X.avs_len x.kids;refine sH Hp func223 rfl call223 ?_;conv=>whnf
   repeat' (first|((first|(refine iM fun _=>?_)|refine x0h rfl ?_|refine aD ?_|refine bP ?_|(refine XM (QV out x.name) (.cons (.hd rfl (by simp)) (.cons (.p (Sub.refl _)) .nil)) (by rintro _ rfl;rfl) ?_;rintro _ rfl)|refine x4n (by simp) rfl (by show(out.length+1)*16<=140737488355328;omega) (by show out.length+1<=9223372036854775807;omega) (fun x c=>by rcases x0b.1 c with rfl;exact⟨rfl,rfl⟩) ?_);conv=>whnf)|(apply bD<;>intro _<;>first|omega|conv=>whnf)|(apply bN<;>intro _<;>conv=>whnf))
   all_goals
    have q:∀j,j<x.kids.length->(x.kids.length-j)*2^n=(x.kids.length-(j+1))*2^n+2^n:=fun j l=>by
     rw[show x.kids.length-j=(x.kids.length-(j+1))+1 by omega,x3q,Nat.one_mul]
    have a:x.kids.length*2^n<=2*2^n:=x2z _ y;first
    |refine LoopK.inv QK (fun i:Nat×List Str=>⟨[(1,.hd 2000 0 i.2.length),(23,.p (.sl (X.avs x.kids))),(24,.p (.int .i64 (X.avs x.kids).length)),(25,.p (.int .i64 i.1))],SU 9 i.2⟩) (fun i=>i.1<=x.kids.length/\DQ (x.kids.drop i.1) i.2=Pj x out/\i.2.length+(x.kids.length-i.1)*2^n<=1073741824) (fun i=>x.kids.length-i.1) (0,out++[x.name]) (Le.of_eq (by simp[SU];exact⟨rfl,rfl⟩)) ⟨x0l _,by simp only[drop_zero];rw[Ma,if_pos ⟨by assumption,by assumption⟩],by have:=z (by assumption);simp[this];omega⟩ ?_
    |refine LoopK.inv QK (fun i:Nat×List Str=>⟨[(1,.hd 2000 0 i.2.length),(23,.p (.sl (X.avs x.kids))),(24,.p (.int .i64 (X.avs x.kids).length)),(25,.p (.int .i64 i.1))],SU 9 i.2⟩) (fun i=>i.1<=x.kids.length/\DQ (x.kids.drop i.1) i.2=Pj x out/\i.2.length+(x.kids.length-i.1)*2^n<=1073741824) (fun i=>x.kids.length-i.1) (0,out) (Le.of_eq rfl) ⟨x0l _,by simp only[drop_zero];rw[Ma,if_neg (by simp[*])],by simp only[Nat.sub_zero];omega⟩ ?_
    rintro⟨j,k⟩ ⟨e,v,f⟩;simp only at e v f⊢;conv=>whnf
    repeat' (first|((first|refine x0h rfl ?_|refine IdxK.xs (by omega) ?_);conv=>whnf)|(apply bD<;>intro _<;>first|omega|conv=>whnf))
    all_goals first
     | (rw[Cm (by omega)]at v
        exact⟨_,.refl _,by rw[v];exact⟨rfl,rfl⟩⟩)
     | (have l:j<x.kids.length:=by omega
        have C:=q j l;have B:=Cr n x.kids[j] k (m _ (x0s l));refine CallK.heap [(2000,2000)] 0 (by repeat' (first|exact x1m|refine x1x ?_ ?_|exact x1v _|exact x1d Sub.nils|exact x1d (Sub.tt rfl)|exact x1d (Sub.ff rfl)|exact x1d (Sub.int (by omega)))) (by refine x0e (j:=2000) rfl rfl ?_ ?_;exact CSub.refl _;exact x1l) (A (by omega) x.kids[j] (m _ (x0s l)) k (by omega)) rfl rfl ?_;rintro l' H' ⟨rfl,rfl⟩;conv=>whnf
        refine wI ?_;conv=>whnf
        exact⟨(j+1,Pj x.kids[j] k),⟨by simp only;omega,by simp only;rw[<-v,TL l],by simp only;omega⟩,by simp only;omega,Le.of_eq rfl⟩)
def XT(x:X):List Str:=bif CS x then Pj x []else []
def VG(x:X):(XT x).length<=1048576:=by
 unfold XT;cases h:CS x with
 |false=>simp
 | true=>
   have:=(Cr 20 x [] h).2;simpa using this
def Zw(x:X):SpecP prog 167 [.agg x.cells] (fun r=>r=eStrs (XT x)):=by
 refine sB Zr func167 rfl call167 ?_;conv=>whnf
 repeat' (first|(refine cP (DT _) ?_;conv=>whnf)|(apply bN<;>intro _<;>conv=>whnf))
 .refine CallK.nil 5 9 1 rfl (.cons rfl (.row .nil)) ?_;refine CallK.heap [(2000,5)] 0 (by repeat' (first|exact x1m|refine x1x ?_ ?_|exact x1v _|exact x1d Sub.nils|exact x1d (Sub.tt rfl)|exact x1d (Sub.ff rfl)|exact x1d (Sub.int (by omega)))) (by refine x0e (j:=5) rfl rfl ?_ ?_;exact CSub.refl _;exact x1l) (Jx 20 (by omega) x (by assumption) [] (by simp)) rfl rfl ?_;rintro l' H' ⟨rfl,rfl⟩;conv=>whnf
  refine⟨_,.hd rfl (by simp),?_⟩;unfold XT;rw[show CS x=true by assumption];rfl
 .refine ⟨_,.p Sub.nils,?_⟩;unfold XT;rw[show CS x=false by assumption];rfl
def KX(a:Arg):List Str:=(bif a.ref then [a.name]else [])++XT a.x
def DH(t:S):List Str:=(bif t.kind≠10 && !(t.name==[])then [t.name]else [])++XT t.x
def ZP(t:S):List Str:=DH t++t.args.flatMap KX
def S8(a:Arg):(KX a).length<=1048577:=by
 have:=VG a.x;unfold KX;cases a.ref<;>simp<;>omega
def S9(t:S):(DH t).length<=1048577:=by
 have:=VG t.x;unfold DH;cases(t.kind≠10 && !(t.name==[]):Bool)<;>simp<;>omega
theorem GE{α β:Type}{f:α->List β}{c:Nat}(h:∀a,(f a).length<=c):∀l:List α,(l.flatMap f).length<=l.length*c
 |[]=>by simp
 | x::r=>by
   have:=GE h r;have:=h x;simp only[x1o,x0g,x1r,x3q,Nat.one_mul];omega
def TV(t:S)(j:Nat):List Str:=DH t++(t.args.take j).flatMap KX
def EW(t:S){j:Nat}(h:j<=t.args.length)(m:t.args.length<=20000):(TV t j).length<=21000000000:=by
 have i:=S9 t;have k:=GE S8 (t.args.take j);have l:(t.args.take j).length*1048577<=20000*1048577:=x2z _ (by simp;omega);unfold TV;simp only[x0g];omega
def SP{t:S}{j:Nat}(h:j<t.args.length):TV t (j+1)=TV t j++KX t.args[j]:=by
 unfold TV;rw[x0a h,x4h,x1k];simp
def Gy(t:S)(h:Nat)(j:Nat):St:=⟨[(3,.hd 0 0 (TV t j).length),(25,.p (.sl (t.args.map fun a=>.agg a.cells))),(26,.p (.int .i64 (t.args.map fun a=>AV.agg a.cells).length)),(27,.p (.int .i64 j))],[(0,.own h 1 ((TV t j).map .str))]⟩
def Kg(t:S)(m:t.args.length<=20000):SpecP prog 211 [.agg t.cells] (fun r=>r=eStrs (ZP t)):=by
 refine sB B4 func211 rfl call211 ?_;conv=>whnf
 repeat' (first|((first|(refine iM fun _=>?_)|refine cP (Zw _) ?_|refine x0h rfl ?_|refine aD ?_|refine bP ?_|refine KC _ (by simp) (by have:=VG t.x;simp;omega) ?_|refine XQ (by simp) (by simp) ?_);conv=>whnf)|(apply bE<;>intro _<;>first|omega|conv=>whnf)|(apply bN<;>intro _<;>conv=>whnf))
 all_goals
  have q:(t.args.map fun a=>AV.agg a.cells).length=t.args.length:=x0j _;refine LoopK.inv QK (Gy t 9) (fun j=>j<=t.args.length) (fun j=>t.args.length-j) 0 (Le.of_eq ?_) (x0l _) ?_
  .first
    | (have e:TV t 0=XT t.x:=by simp[TV,DH,show t.kind=10 by assumption]
       rw[Gy,e];simp only[x3v,x0j,x0g,x0c,x5k];rfl)
    | (have e:TV t 0=XT t.x:=by simp[TV,DH,show t.name=[] by simpa using(show(t.name==[])=true by assumption)]
       rw[Gy,e];simp only[x3v,x0j,x0g,x0c,x5k];rfl)
    | (have e:TV t 0=[t.name]++XT t.x:=by
        have:(t.name==[])=false:=by assumption
        simp[TV,DH,show ¬t.kind=10 by assumption,this]
       rw[Gy,e];simp only[x3v,x0j,x0g,x0c,x5k];rfl)
  intro j l;have k:=EW t l m;conv=>whnf
  repeat' (first|((first|refine cP (Zw _) ?_|refine x0h rfl ?_|refine aD ?_|refine bP ?_|(refine iA fun _=>?_)|refine wI ?_|refine KC _ (by simp) (by have:=VG (t.args[j]'(by omega)).x;simp;omega) ?_|refine XQ (by simp) (by simp;omega) ?_);conv=>whnf)|(apply bD<;>intro _<;>first|omega|conv=>whnf)|(apply bB<;>intro _<;>conv=>whnf))
  all_goals first
   |exact⟨_,.hd rfl (by simp),by
      have:t.args.take j=t.args:=x1w (by omega);rw[ZP,<-this];rfl⟩
   | (have p:j<t.args.length:=by omega
      have h:=SP p;refine⟨j+1,by show j+1<=_;omega,by show t.args.length-(j+1)<t.args.length-j;omega,Le.of_eq ?_⟩;first
       | (have i:KX t.args[j]=[t.args[j].name]++XT t.args[j].x:=by rw[KX,show t.args[j].ref=true by assumption];rfl
          rw[Gy,h,i];simp only[x0g,x0c,x0j,<-x1k,<-x3o];rfl)
       | (have i:KX t.args[j]=XT t.args[j].x:=by rw[KX,show t.args[j].ref=false by assumption];rfl
          rw[Gy,h,i];simp only[x0g,x0c,x0j];rfl))
abbrev Wd:=BitVec 64
def eW(w:Wd):AV:=.int .u64 (w.toNat:Int)
def Dt(w:Wd):IntKind.u64.wrap (w.toNat:Int)=w.toNat:=by
 have h:=w.isLt;unfold IntKind.wrap;simp[IntKind.bits,IntKind.signed];omega
def BZ{σ:Mem}{β:Lab}{s:St}{a:Act}(j:∀i,RepL σ β (getS s.sl i) (a.tmps.getD i undef)){x:Operand}{k:IntKind}{n:Int}(l:QL s.sl x=.p (.int k n)):a.eval x=.int k n:=by
 have h:=QZ j x;rw[l]at h;generalize a.eval x=v at h;cases h with
 |p h=>cases h;rfl
def UH{op:BinOp}{x y:Operand}(k:o.op=.binOp op t x y u)(a b c:Wd){m n:Int}(A:QL s.sl x=.p (.int .u64 m))(B:QL s.sl y=.p (.int .u64 n))(f:m=a.toNat)(g:n=b.toNat)(d:(op=.and/\c=a &&& b)\/(op=.or/\c=a |||b)\/(op=.andNot/\c=a &&& ~~~b))(z:K (.p (eW c))):ValO P hr s o K:=by
 refine⟨fun σ β C w l _=>⟨_,.int .u64 c.toNat,z,.p (.int _ _),fun w' _ _=>?_⟩⟩;have q:=BZ l A;have v:=BZ l B;have e:(eqGuard op t x y (.int .u64 m) (.int .u64 n)).run P w'=.ok () w':=by
  unfold eqGuard;cases op<;>rfl
 have i:BitVec.ofInt 64 m=a:=by rw[f];simp
 have j:BitVec.ofInt 64 n=b:=by rw[g];simp
 have h:(binOp op t (.int .u64 m) (.int .u64 n)).run P w'=.ok (.int .u64 c.toNat) w':=by
  rcases d with⟨rfl,rfl⟩|⟨rfl,rfl⟩|⟨rfl,rfl⟩
  .show (Op.intBits .and .u64 m n).run P w'=_;show(pure (.int .u64 (IntKind.u64.wrap ((BitVec.ofInt 64 m &&& BitVec.ofInt 64 n).toNat:Int))):Sem Value).run P w'=_;rw[i,j,Dt];rfl
  .show (pure (.int .u64 (IntKind.u64.wrap ((BitVec.ofInt 64 m |||BitVec.ofInt 64 n).toNat:Int))):Sem Value).run P w'=_;rw[i,j,Dt];rfl
  .show (pure (.int .u64 (IntKind.u64.wrap ((BitVec.ofInt 64 m &&& ~~~ BitVec.ofInt 64 n).toNat:Int))):Sem Value).run P w'=_;rw[i,j,Dt];rfl
 simp only[execOp,k,q,v,Sem.run_bind,e,h,Result.andThen_ok,Sem.run_pure]
theorem ValO.shr{P:Program}{hr:Bool}{s:St}{o:Oper}{K:LV->Prop}{t u:TypeId}{x y:Operand}(j:o.op=.binOp .shr t x y u)(a:Wd)(n:Nat){m k:Int}(A:QL s.sl x=.p (.int .u64 m))(B:QL s.sl y=.p (.int .i64 k))(g:m=a.toNat)(f:k=n)(D:n<64)(z:K (.p (eW (a >>> n)))):ValO P hr s o K:=by
 refine⟨fun σ β C w l _=>⟨_,.int .u64 (a >>> n).toNat,z,.p (.int _ _),fun w' _ _=>?_⟩⟩;have q:=BZ l A;have v:=BZ l B;have c:(eqGuard .shr t x y (.int .u64 m) (.int .i64 k)).run P w'=.ok () w':=by
  unfold eqGuard;rfl
 have i:(binOp .shr t (.int .u64 m) (.int .i64 k)).run P w'=.ok (.int .u64 (a >>> n).toNat) w':=by
  show(Op.shift .shr .u64 m .i64 k).run P w'=_;unfold Op.shift;rw[if_neg (by omega),g,f];have e:min (n:Int).toNat (IntKind.bits .u64)=n:=by
   show min (n:Int).toNat 64=n;omega
  simp only[e];have e2:(a.toNat:Int).fdiv (2^n)=((a >>> n).toNat:Int):=by
   rw[BitVec.toNat_ushiftRight,Nat.shiftRight_eq_div_pow,Int.fdiv_eq_ediv_of_nonneg _ (by exact_mod_cast x0l _)]
   push_cast
   rfl
  rw[e2];rfl
 simp only[execOp,j,q,v,Sem.run_bind,c,i,Result.andThen_ok,Sem.run_pure]
def SB{x y:Operand}(i:o.op=.binOp .shl t x y u)(n:Nat){k:Int}(d:QL s.sl x=.p (.int .u64 1))(f:QL s.sl y=.p (.int .i64 k))(a:k=n)(c:n<64)(v:K (.p (eW (1#64 <<< n)))):ValO P hr s o K:=by
 refine⟨fun σ β g w j _=>⟨_,.int .u64 (1#64 <<< n).toNat,v,.p (.int _ _),fun w' _ _=>?_⟩⟩;have m:=BZ j d;have q:=BZ j f;have z:(eqGuard .shl t x y (.int .u64 1) (.int .i64 k)).run P w'=.ok () w':=by
  unfold eqGuard;rfl
 have h:(binOp .shl t (.int .u64 1) (.int .i64 k)).run P w'=.ok (.int .u64 (1#64 <<< n).toNat) w':=by
  show(Op.shift .shl .u64 1 .i64 k).run P w'=_;unfold Op.shift;rw[if_neg (by omega),a];have e:min (n:Int).toNat (IntKind.bits .u64)=n:=by
   show min (n:Int).toNat 64=n;omega
  simp only[e];have l:(1#64 <<< n).toNat=2^n:=by
   rw[BitVec.toNat_shiftLeft];simp only[BitVec.toNat_ofNat];rw[Nat.shiftLeft_eq,Nat.one_mod_two_pow_eq_one.2 (by decide),Nat.one_mul,Nat.mod_eq_of_lt (Nat.pow_lt_pow_right (by decide) c)]
  have e2:IntKind.u64.wrap ((1:Int)*2^n)=((1#64 <<< n).toNat:Int):=by
   rw[<-Dt,l];congr 1
   push_cast
   omega
  rw[e2];rfl
 simp only[execOp,i,m,q,Sem.run_bind,z,h,Result.andThen_ok,Sem.run_pure]
def SZ{ws:List Wd}{i:Nat}(h:i<ws.length):(ws.map eW)[i]?=some (.int .u64 (ws[i].toNat:Int)):=by
 rw[x0d,x0u h];rfl
def Au(ws:List Wd)(f:Nat):List Wd:=ws.set (f/64) (ws.getD (f/64) 0 |||1#64 <<< (f%64))
def wsH(k:Nat)(ws:List Wd):Nat×Chunk:=(k,.own 282 1 (ws.map eW))
def EO(f:Nat):(f:Int).tdiv 64=((f/64:Nat):Int):=rfl
def q4t(f:Nat):(f:Int).tmod 64=((f%64:Nat):Int):=rfl
def Ji(ws:List Wd)(f:Nat)(i:f/64<ws.length)(l:ws.length<=1000000):SpecH prog 288 [.hd 1000 0 ws.length,.p (.int .i64 f)] [wsH 1000 ws] (fun r H=>(∃b,r=.p (.bool b))/\H=[wsH 1000 (Au ws f)]):=by
 refine sH Wp func288 rfl call288 ?_;conv=>whnf
 have e:=SZ i;have h:=EO f;have k:=q4t f;have j:(ws.map eW).set (f/64) (eW (ws[f/64] |||1#64 <<< (f%64)))=(Au ws f).map eW:=by
  unfold Au;rw[x2y,x0y,x0u i];rfl
 repeat' (first|((first|(refine iM fun _=>?_)|refine dA ?_|refine x0h rfl ?_|refine aD ?_|refine aR ?_|refine bP ?_|(refine iA fun _=>?_)|refine IdxK.xs (by omega) ?_|refine QX (by omega) ?_|(refine ByteK.at (by omega) ?_)|refine x0h (by decide) ?_|refine Wr.i64 (by rw[h];omega) (by rw[h];omega) ?_|refine x1i (f/64) h i ?_|refine x2t (f/64) 0 (.int .u64 (ws[f/64].toNat:Int)) (by omega) e ?_|refine ValO.shr rfl ws[f/64] (f%64) rfl rfl rfl k (by omega) ?_|refine UH rfl _ 1#64 _ rfl rfl rfl rfl (.inl ⟨rfl,rfl⟩) ?_|refine SB rfl (f%64) rfl rfl k (by omega) ?_|refine UH rfl _ _ _ rfl rfl rfl rfl (.inr (.inl ⟨rfl,rfl⟩)) ?_|refine x3p (f/64) 0 (.int .u64 (ws[f/64].toNat:Int)) (eW (ws[f/64] |||1#64 <<< (f%64))) (by omega) e (x0o 1) rfl ?_);conv=>whnf)|(apply bD<;>intro _<;>first|omega|conv=>whnf)|(apply bE<;>intro _<;>first|omega|conv=>whnf)|(apply bN<;>intro _<;>conv=>whnf)|(apply bB<;>intro _<;>conv=>whnf))
 all_goals first
  |exact⟨_,.refl _,⟨_,rfl⟩,by unfold wsH;rw[<-j]⟩
def ZB(b c:List Wd):List Wd:=List.zipWith (fun x y=>x |||y) b c
def Qx(b c:List Wd)(k:Nat):Bool:=(List.range k).any fun i=> !(((c.getD i 0 &&& ~~~(b.getD i 0)).toNat:Int)==0)
def S7(b c:List Wd)(k:Nat):Qx b c (k+1)=(Qx b c k || !(((c.getD k 0 &&& ~~~(b.getD k 0)).toNat:Int)==0)):=by
 unfold Qx;rw[x4c,List.any_append];simp
def Sn(b c:List Wd)(a:c.length=b.length)(f:b.length<=1000000):SpecH prog 291 [.hd 1000 0 b.length,.hd 1001 0 c.length] [wsH 1000 b,wsH 1001 c] (fun r H=>r=.p (.bool (Qx b c b.length))/\H=[wsH 1000 (ZB b c),wsH 1001 c]):=by
 refine sH Bu func291 rfl call291 ?_;conv=>whnf
 repeat' (first|((first|(refine iM fun _=>?_)|refine dA ?_|refine x0h rfl ?_|refine aD ?_|refine aR ?_|refine bP ?_|(refine iA fun _=>?_)|refine IdxK.xs (by omega) ?_|refine QX (by omega) ?_|(refine ByteK.at (by omega) ?_)|refine wI ?_);conv=>whnf)|(apply bD<;>intro _<;>first|omega|conv=>whnf)|(apply bE<;>intro _<;>first|omega|conv=>whnf)|(apply bN<;>intro _<;>conv=>whnf)|(apply bB<;>intro _<;>conv=>whnf))
 have d:(ZB b c).length=b.length:=by unfold ZB;rw[x6o];omega
 refine LoopK.inv QK (fun i:Nat=>⟨[(0,.hd 1000 0 b.length),(1,.hd 1001 0 c.length),(4,.p (.bool (Qx b c i))),(7,.p (.int .i64 b.length)),(8,.p (.int .i64 i))],[wsH 1000 ((ZB b c).take i++b.drop i),wsH 1001 c]⟩) (fun i=>i<=b.length) (fun i=>b.length-i) 0
  (Le.mk [] (by simp) (by simp) (by show(List.map _ _).Nodup;simp[wsH]) (.r (.r (.cons (.p (Sub.ff rfl)) (.r (.r .nil))))) (.cons rfl (.refl _) (.cons rfl (.refl _) .nil))) (x0l _) ?_
 intro i e;rcases x0t i b.length with j|j
 .have h:i<c.length:=by omega
  have v:((ZB b c).take i++b.drop i).length=b.length:=by rw[x0g,x1f,x3w];omega
  have z:((ZB b c).take i++b.drop i)[i]?=some b[i]:=by
   rw[x2q (by rw[x1f];omega),x1f,x2g,show i+(i-min i (ZB b c).length)=i by omega,x0u j]
  have m:((ZB b c).take i++b.drop i).set i (b[i] |||c[i]'h)=(ZB b c).take (i+1)++b.drop (i+1):=by
   rw[x4d _ _ (by rw[x1f];omega),x1f,show i-min i (ZB b c).length=0 by omega,x1c j,x4p,x0a (by omega),x1k];congr 1;show _=(ZB b c)[i]::_;unfold ZB;rw[List.getElem_zipWith];rfl
  have l:=S7 b c i;rw[x0y,x0y,x0u j,x0u (show i<c.length by omega)]at l;simp only[x2k]at l;generalize((ZB b c).take i++b.drop i)=row at v z m⊢;have x:(row.map eW)[i]?=some (.int .u64 (b[i].toNat:Int)):=by rw[x0d,z];rfl
  have e2:=SZ (ws:=c) (i:=i) (by omega);have y:(row.map eW).set i (eW (b[i] |||c[i]'h))=((ZB b c).take (i+1)++b.drop (i+1)).map eW:=by rw[<-m,x2y]
  cases q:Qx b c i;all_goals
   rw[q]at l;unfold wsH;conv=>whnf
   repeat' (first|((first|(refine iM fun _=>?_)|refine x0h rfl ?_|refine aD ?_|refine aR ?_|refine bP ?_|(refine iA fun _=>?_)|refine IdxK.xs (by omega) ?_|refine QX (by omega) ?_|(refine ByteK.at (by omega) ?_)|refine wI ?_|refine dA ?_|refine x1i i rfl (by omega) ?_|refine x2t i 0 (.int .u64 (b[i].toNat:Int)) (by omega) x ?_|refine x2t i 0 (.int .u64 ((c[i]'h).toNat:Int)) (by omega) e2 ?_|refine UH rfl (c[i]'h) b[i] _ rfl rfl rfl rfl (.inr (.inr ⟨rfl,rfl⟩)) ?_|refine UH rfl b[i] (c[i]'h) _ rfl rfl rfl rfl (.inr (.inl ⟨rfl,rfl⟩)) ?_|refine x3p i 0 (.int .u64 (b[i].toNat:Int)) (eW (b[i] |||c[i]'h)) (by omega) x (x0o 1) rfl ?_|refine Br.tt ?_|refine Br.ff ?_);conv=>whnf)|(apply bD<;>intro _<;>first|omega|conv=>whnf)|(apply bE<;>intro _<;>first|omega|conv=>whnf)|(apply bN<;>intro _<;>conv=>whnf)|(apply bB<;>intro _<;>conv=>whnf))
   all_goals first
    |exact⟨i+1,j,by omega,Le.of_eq (by rw[l,<-y];rfl)⟩
    |exact⟨i+1,j,by omega,by
       rw[l,<-y];exact Le.mk [] (by simp) (by simp) (by show(List.map _ _).Nodup;simp[wsH]) (.r (.r (.cons (.p (Sub.tt rfl)) (.r (.r .nil))))) (.cons rfl (.refl _) (.cons rfl (.refl _) .nil))⟩
 .have k:(ZB b c).take i++b.drop i=ZB b c:=by rw[x1w (by omega),x1q j,x2v]
  obtain rfl:i=b.length:=by omega
  rw[k];unfold wsH;conv=>whnf
  repeat' (first|((first|(refine iM fun _=>?_)|refine dA ?_|refine x0h rfl ?_|refine aD ?_|refine aR ?_|refine bP ?_|(refine iA fun _=>?_)|refine IdxK.xs (by omega) ?_|refine QX (by omega) ?_|(refine ByteK.at (by omega) ?_)|refine wI ?_);conv=>whnf)|(apply bD<;>intro _<;>first|omega|conv=>whnf)|(apply bE<;>intro _<;>first|omega|conv=>whnf)|(apply bN<;>intro _<;>conv=>whnf)|(apply bB<;>intro _<;>conv=>whnf))
  all_goals first
   |exact⟨_,.refl _,rfl,rfl⟩
def bitW(ws:List Wd)(f:Nat):Bool:=(ws.getD (f/64) 0).getLsbD (f%64)
def US(ws:List Wd)(h:Nat):List Int:=((List.range h).filter (bitW ws)).map ofNat
def q2k(w:Wd)(k:Nat):((w >>> k &&& 1#64).toNat:Int)=if w.getLsbD k then 1 else 0:=by
 have h:(w >>> k &&& 1#64).toNat=(w.toNat >>> k)%2:=by
  rw[BitVec.toNat_and,BitVec.toNat_ushiftRight];show(w.toNat >>> k) &&& 1=_;exact Nat.and_one_is_mod _
 rw[h,BitVec.getLsbD,Nat.testBit,Nat.and_comm,Nat.and_one_is_mod];have:=Nat.mod_two_eq_zero_or_one (w.toNat >>> k);rcases this with h|h<;>rw[h]<;>rfl
def S3(ws:List Wd)(k:Nat):US ws (k+1)=US ws k++(if bitW ws k then [(k:Int)]else []):=by
 unfold US;rw[x4c,x3k,x0c];congr 1;cases h:bitW ws k
 .rw [x3n (by rw[h];decide)];rfl
 .rw [x3d h];rfl
def CP(ws:List Wd)(k:Nat):(US ws k).length<=k:=by
 unfold US;rw[x0j];exact x1t (x2l _ _) (by simp)
def J4(ws:List Wd)(h:Nat)(A:h<=1000000)(c:h/64<ws.length):SpecP prog 292 [.sl (ws.map eW),.int .i64 h] (fun r=>r=QI (US ws h)):=by
 refine sB Xw func292 rfl call292 ?_;conv=>whnf
 repeat' (first|((first|(refine iM fun _=>?_)|refine dA ?_|refine x0h rfl ?_|refine aD ?_|refine aR ?_|refine bP ?_|(refine iA fun _=>?_)|refine IdxK.xs (by omega) ?_|refine QX (by omega) ?_|(refine ByteK.at (by omega) ?_)|refine wI ?_);conv=>whnf)|(apply bD<;>intro _<;>first|omega|conv=>whnf)|(apply bE<;>intro _<;>first|omega|conv=>whnf)|(apply bN<;>intro _<;>conv=>whnf)|(apply bB<;>intro _<;>conv=>whnf))
 have d:(ws.map eW).length=ws.length:=x0j _;refine LoopK.inv QK (fun f:Nat=>⟨[(0,.p (.sl (ws.map eW))),(1,.p (.int .i64 h)),(5,.hd 0 0 (US ws f).length),(6,.p (.int .i64 f))],[(0,.own 3 1 ((US ws f).map (.int .i64)))]⟩) (fun f=>f<=h) (fun f=>h-f) 0
  (Le.mk [(0,.own 3 1 [])] (by simp[Chunk.new0];rfl) (by simp) (by simp) (.r (.r (.cons (.nil x0k) (.r .nil)))) (.new x0k .nil)) (x0l _) ?_
 intro f g;have a:=CP ws f;have i:=S3 ws f;rcases x0t f h with q|q
 .have l:f/64<ws.length:=Nat.lt_of_le_of_lt (Nat.div_le_div_right (by omega)) c;have e:=SZ l;have m:=EO f;have z:=q4t f;have x:bitW ws f=(ws[f/64]).getLsbD (f%64):=by unfold bitW;rw[x0y,x0u l];rfl
  have j:=q2k ws[f/64] (f%64);rw[<-x]at j;generalize US ws f=acc at*
  conv=>whnf
  repeat' (first|((first|(refine iM fun _=>?_)|refine dA ?_|refine x0h rfl ?_|refine aD ?_|refine aR ?_|refine bP ?_|(refine iA fun _=>?_)|refine IdxK.xs (by omega) ?_|refine QX (by omega) ?_|(refine ByteK.at (by omega) ?_)|refine x0h (by decide) ?_|refine Wr.i64 (by first|omega|(rw[m];omega)) (by first|omega|(rw[m];omega)) ?_|(refine IdxK.at (k:=f/64) m e rfl ?_)|refine ValO.shr rfl ws[f/64] (f%64) rfl rfl rfl z (by omega) ?_|refine UH rfl _ 1#64 _ rfl rfl rfl rfl (.inl ⟨rfl,rfl⟩) ?_|refine XU (by simp) (by simp;omega) ?_);conv=>whnf)|(apply bD<;>intro _<;>first|omega|conv=>whnf)|(apply bE<;>intro _<;>first|omega|conv=>whnf)|(apply bN<;>intro _<;>conv=>whnf)|(apply bB<;>intro _<;>conv=>whnf))
  all_goals first
   | (have v:bitW ws f=true:=by
       cases y:bitW ws f with
       |true=>rfl
       |false=>rw[y]at j;exfalso;simp_all;done
      rw[v]at i;exact⟨f+1,q,by omega,Le.of_eq (by rw[i];simp only[x0g,x0c,if_true];rfl)⟩)
   | (have v:bitW ws f=false:=by
       cases y:bitW ws f with
       |false=>rfl
       |true=>rw[y]at j;exfalso;simp_all;done
      rw[v]at i;exact⟨f+1,q,by omega,Le.of_eq (by rw[i];simp only[x2v,Bool.false_eq_true,if_false];rfl)⟩)
 .obtain rfl:f=h:=by omega
  conv=>whnf
  repeat' (first|((first|(refine iM fun _=>?_)|refine dA ?_|refine x0h rfl ?_|refine aD ?_|refine aR ?_|refine bP ?_|(refine iA fun _=>?_)|refine IdxK.xs (by omega) ?_|refine QX (by omega) ?_|(refine ByteK.at (by omega) ?_)|refine wI ?_);conv=>whnf)|(apply bD<;>intro _<;>first|omega|conv=>whnf)|(apply bE<;>intro _<;>first|omega|conv=>whnf)|(apply bN<;>intro _<;>conv=>whnf)|(apply bB<;>intro _<;>conv=>whnf))
  all_goals first
   |exact⟨_,.hd rfl (by simp),rfl⟩
def T2(ws:List Wd)(f:Nat):(Au ws f).length=ws.length:=by unfold Au;rw[x3g]
def Y4{b c:List Wd}(h:c.length=b.length):(ZB b c).length=b.length:=by unfold ZB;rw[x6o];omega
def GW{b c:List Wd}(h:c.length=b.length){f:Nat}(i:f/64<b.length):bitW (ZB b c) f=(bitW b f||bitW c f):=by
 unfold bitW ZB;rw[x0y,x0y,x0y,List.getElem?_zipWith,x0u i,x0u (show f/64<c.length by omega)];simp only[x2k];rw[BitVec.getLsbD_or]
def EN{ws:List Wd}{f g:Nat}(l:f/64<ws.length):bitW (Au ws f) g=(bitW ws g||decide (g=f)):=by
 unfold bitW Au;by_cases h:g/64=f/64
 .rw [h,x0y,x2p l];simp only[x2k];rw[BitVec.getLsbD_or];congr 1;rw[BitVec.getLsbD_shiftLeft];have p:g%64<64:=mod_lt _ (by decide);have m:f%64<64:=mod_lt _ (by decide);by_cases i:g=f
  .subst i;simp[p]
  .have q:g%64≠f%64:=fun k=>i (by have:=Nat.div_add_mod g 64;have:=Nat.div_add_mod f 64;omega);rw[x2h i];by_cases j:g%64<f%64
   .simp [j]
   .have:(1#64).getLsbD (g%64-f%64)=false:=by
     rw[BitVec.getLsbD_one];have:¬g%64-f%64=0:=by omega
     simp[this]
    simp[this]
 .rw [x0y,x2i (x4g h),x0y];have i:g≠f:=fun k=>h (by rw[k]);rw[x2h i,Bool.or_false]
def Bo(w f:Nat):bitW (List.replicate w 0) f=false:=by
 unfold bitW;rw[x0y,x1b];split<;>simp
def HK(w:Nat)(fs:List Int):List Wd:=fs.foldl (fun ws f=>Au ws f.toNat) (List.replicate w 0)
def Cf(fs:List Int):∀ws:List Wd,(fs.foldl (fun ws f=>Au ws f.toNat) ws).length=ws.length:=by
 induction fs with
 |nil=>intro ws;rfl
 |cons f r h=>intro ws;rw[x3m,h,T2]
def Vj(w:Nat)(fs:List Int):(HK w fs).length=w:=by unfold HK;rw[Cf,x2d]
def Af(w:Nat)(fs:List Int){j:Nat}(h:j<fs.length):HK w (fs.take (j+1))=Au (HK w (fs.take j)) fs[j].toNat:=by
 unfold HK;rw[x0a h,x5e];rfl
def EM{w:Nat}{fs:List Int}(h:∀f∈fs,0<=f/\f.toNat/64<w)(g:Nat):bitW (HK w fs) g=decide ((g:Int)∈fs):=by
 unfold HK;have key:∀(fs:List Int)(ws:List Wd),ws.length=w->(∀f∈fs,0<=f/\f.toNat/64<w)->bitW (fs.foldl (fun ws f=>Au ws f.toNat) ws) g=(bitW ws g||decide ((g:Int)∈fs)):=fun fs=>by
  induction fs with
  |nil=>intro ws _ _;simp
  | cons f r k=>
    intro ws i hr;obtain⟨l,m⟩:=hr f x0k;rw[x3m,k _ (by rw[T2];exact i) fun x j=>hr x (x0f _ j),EN (by omega),Bool.or_assoc];congr 1;rw[x4b];simp only[x3i,x1n,x0p];constructor
    .rintro (h|h)
     .exact .inl (by omega)
     .exact .inr h
    .rintro (h|h)
     .exact .inl (by omega)
     .exact .inr h
 rw[key fs _ (by simp) h,Bo,Bool.false_or]
def PW(w:Nat)(g i k:List Wd):List Wd:=(List.range w).map fun j=>g.getD j 0 |||(i.getD j 0 &&& ~~~(k.getD j 0))
def Co(w:Nat)(g i k:List Wd):(PW w g i k).length=w:=by unfold PW;simp
def U3{w:Nat}{g i k:List Wd}{f:Nat}(h:f/64<w):bitW (PW w g i k) f=(bitW g f||(bitW i f && !bitW k f)):=by
 unfold bitW PW;rw[x0y (l:=(List.range w).map _),x0d,x4l h];simp only[x4y,x2k];rw[BitVec.getLsbD_or,BitVec.getLsbD_and,BitVec.getLsbD_not];have:f%64<64:=mod_lt _ (by decide);simp[this]
def q8n{x:Wd}(h:x≠0):∃k,k<64/\x.getLsbD k=true:=by
 refine x3u fun l=>h ?_;refine BitVec.eq_of_getLsbD_eq fun i j=>?_;have:x.getLsbD i=false:=by
  cases m:x.getLsbD i with
  |false=>rfl
  |true=>exact absurd ⟨i,j,m⟩ l
 rw[this];simp
def Na(x:Wd):(((x.toNat:Int)==0)=false)↔x≠0:=by
 constructor
 .rintro h rfl;simp at h
 .intro h;have:x.toNat≠0:=fun i=>h (BitVec.eq_of_toNat_eq (by simpa using i));simpa using this
def N4{b c:List Wd}(h:c.length=b.length):Qx b c b.length=true ↔ ∃f,f/64<b.length/\bitW c f=true/\bitW b f=false:=by
 unfold Qx;rw[x2e];constructor
 .rintro ⟨i,q,d⟩;have q:=x1a.1 q;have j:(c.getD i 0 &&& ~~~(b.getD i 0))≠0:=(Na _).1 (by simpa using d);obtain⟨k,a,m⟩:=q8n j;rw[BitVec.getLsbD_and,BitVec.getLsbD_not,x1z]at m;refine⟨64*i+k,by omega,?_,?_⟩
  .unfold bitW;rw[show(64*i+k)/64=i by omega,show(64*i+k)%64=k by omega];exact m.1
  .unfold bitW;rw[show(64*i+k)/64=i by omega,show(64*i+k)%64=k by omega];have:=m.2;simpa[a]using this
 .rintro ⟨f,z,j,p⟩;refine⟨f/64,x1a.2 z,?_⟩;have v:(c.getD (f/64) 0 &&& ~~~(b.getD (f/64) 0))≠0:=fun y=>by
   have:=x2o (fun x:Wd=>x.getLsbD (f%64)) y;simp only[BitVec.getLsbD_and,BitVec.getLsbD_not,BitVec.getLsbD_zero]at this;unfold bitW at j p;rw[j,p]at this;have l:f%64<64:=mod_lt _ (by decide);simp[l]at this
  have:=(Na _).2 v;simpa using this
def CJ{b c:List Wd}(h:c.length=b.length)(p:Qx b c b.length=false):ZB b c=b:=by
 have m:∀f,f/64<b.length->bitW c f=true->bitW b f=true:=fun f x j=>by
  cases l:bitW b f with
  |true=>rfl
  |false=>rw[(N4 h).2 ⟨f,x,j,l⟩]at p;cases p
 refine List.ext_getElem (Y4 h) fun i j l=>?_;refine BitVec.eq_of_getLsbD_eq fun k y=>?_;have q:bitW (ZB b c) (64*i+k)=(ZB b c)[i].getLsbD k:=by
  unfold bitW;rw[show(64*i+k)/64=i by omega,show(64*i+k)%64=k by omega,x0y,x0u j];rfl
 have e2:bitW b (64*i+k)=b[i].getLsbD k:=by
  unfold bitW;rw[show(64*i+k)/64=i by omega,show(64*i+k)%64=k by omega,x0y,x0u l];rfl
 rw[<-q,<-e2,GW h (by omega)];cases v:bitW c (64*i+k)with
 |false=>rw[Bool.or_false]
 |true=>rw[m _ (by omega) v];rfl
def q0l(w:Nat)(ws:List Wd):Nat:=(List.range (64*w)).countP (bitW ws)
def q0r(w:Nat)(ws:List Wd):q0l w ws<=64*w:=by
 unfold q0l;have:=x6m (p:=bitW ws) (l:=List.range (64*w));simpa using this
theorem P3{p q:Nat->Bool}(h:∀x,p x=true->q x=true){x:Nat}(j:p x=false)(k:q x=true):∀{l:List Nat},x∈l->l.countP p+1<=l.countP q
 |[],i=>by cases i
 | y::r,i=>by
   have m:r.countP p<=r.countP q:=List.countP_mono_left fun z _ a=>h z a;rw[List.countP_cons,List.countP_cons];rcases x0p.1 i with rfl|i
   .rw [j,k];simp;omega
   .have:=P3 h j k i;cases v:p y with
    |false=>simp;split<;>omega
    |true=>rw[h y v];simp;omega
def EA{w:Nat}{b c:List Wd}(p:b.length=w)(q:c.length=w)(m:Qx b c b.length=true):q0l w b+1<=q0l w (ZB b c):=by
 obtain⟨f,l,j,k⟩:=(N4 (by omega)).1 m;refine P3 (x:=f) (fun x i=>?_) k ?_ (x1a.2 (by omega))
 .by_cases h:x/64<b.length
  .rw [GW (by omega) h,i];rfl
  .unfold bitW at i;rw[x0y,x2f (by omega)]at i;simp at i
 .rw [GW (by omega) l,j,Bool.or_true]
inductive SolP(nx:List (List Int))(gen kill:List (List Wd))(f:Nat):Int->Prop
 |gen {a b:Int} (h0:0<=a) (h:bitW (gen.getD a.toNat []) f=true) (hb:b∈nx.getD a.toNat []):SolP nx gen kill f b
 |go {a b:Int} (h0:0<=a) (h:SolP nx gen kill f a) (hk:bitW (kill.getD a.toNat []) f=false) (hb:b∈nx.getD a.toNat []):SolP nx gen kill f b
structure SvS where
 R:List (List Wd)
 todo:List Int
 waits:List Bool
def jnE(goes:List Wd)(st:SvS)(b:Int):SvS:=
 bif Qx (st.R.getD b.toNat []) goes (st.R.getD b.toNat []).length && !(st.waits.getD b.toNat false)then⟨st.R.set b.toNat (ZB (st.R.getD b.toNat []) goes),st.todo++[b],st.waits.set b.toNat true⟩else⟨st.R.set b.toNat (ZB (st.R.getD b.toNat []) goes),st.todo,st.waits⟩
def goA(w:Nat)(gen kill:List (List Wd))(R:List (List Wd))(a:Nat):List Wd:=PW w (gen.getD a []) (R.getD a []) (kill.getD a [])
structure SvI(n w:Nat)(nx:List (List Int))(gen kill:List (List Wd))(st:SvS):Prop where
 len:st.R.length=n
 rows:∀r∈st.R,r.length=w
 wl:st.waits.length=n
 nd:st.todo.Nodup
 rng:∀b∈st.todo,0<=b/\b<n
 wt:∀b:Int,0<=b->b<n->(st.waits.getD b.toNat false=true↔b∈st.todo)
 snd:∀b:Int,0<=b->b<n->∀f,f/64<w->bitW (st.R.getD b.toNat []) f=true->SolP nx gen kill f b
def closedA(n w:Nat)(nx:List (List Int))(gen kill:List (List Wd))(R:List (List Wd))(x:Int):Prop:=∀b∈nx.getD x.toNat [],∀f,f/64<w->bitW (goA w gen kill R x.toNat) f=true->bitW (R.getD b.toNat []) f=true
def VT(w:Nat)(R:List (List Wd)):Nat:=(R.map (q0l w)).sum
structure SvJ(n w:Nat)(nx:List (List Int))(gen kill:List (List Wd))(a:Int)(goes:List Wd)(j:Nat)(st:SvS):Prop where
 I:SvI n w nx gen kill st
 cl:∀x:Int,0<=x->x<n->x∉st.todo->x≠a->closedA n w nx gen kill st.R x
 go:a∉st.todo->goA w gen kill st.R a.toNat=goes
 pr:∀b∈(nx.getD a.toNat []).take j,∀f,f/64<w->bitW goes f=true->bitW (st.R.getD b.toNat []) f=true
theorem AT{w:Nat}:∀(l:List (List Wd))(i:Nat)(r:List Wd)(h:i<l.length),VT w (l.set i r)+q0l w l[i]=VT w l+q0l w r
 |x::l,0,r,_=>by simp only[VT,x4p,x1j,x5f,List.getElem_cons_zero];omega
 | x::l,i+1,r,h=>by
   have:=AT (w:=w) l i r (by simpa using h);simp only[VT,List.set_cons_succ,x1j,x5f,List.getElem_cons_succ]at this⊢;omega
theorem Uq{w:Nat}:∀(l:List (List Wd)),VT w l<=l.length*(64*w)
 |[]=>by simp[VT]
 | x::l=>by
   have i:=q0r w x;have h:=Uq (w:=w) l;simp only[VT,x1j,x5f,x1r]at h⊢;rw[x3q];omega
section
variable {n w:Nat}{nx:List (List Int)}{gen kill:List (List Wd)}(hnx : ∀ r∈nx,∀ b∈r,0<=b/\b<n)
include hnx
def q1p{a:Int}(ha0:0<=a)(han:a<n){goes:List Wd}(hgl:goes.length=w)(hgs:∀f,f/64<w->bitW goes f=true->∀b∈nx.getD a.toNat [],SolP nx gen kill f b){j:Nat}{st:SvS}(h:SvJ n w nx gen kill a goes j st)(hj:j<(nx.getD a.toNat []).length):
  SvJ n w nx gen kill a goes (j+1) (jnE goes st (nx.getD a.toNat [])[j])/\VT w st.R+(jnE goes st (nx.getD a.toNat [])[j]).todo.length<=VT w (jnE goes st (nx.getD a.toNat [])[j]).R+st.todo.length:=by
 obtain⟨I,hcl,hgo,hpr⟩:=h;have c:=x0s hj;have htk:=x0a hj;generalize hb:(nx.getD a.toNat [])[j]=b at c htk⊢;have D:0<=b/\b<n:=by
  rw[x0y]at c;cases H:nx[a.toNat]?with
  |none=>rw[H]at c;cases c
  |some r=>rw[H]at c;exact hnx r (x0i H) b c
 have C:b.toNat<st.R.length:=by have:=I.len;omega
 have g:st.R.getD b.toNat []=st.R[b.toNat]:=by rw[x0y,x0u C];rfl
 have U:(st.R.getD b.toNat []).length=w:=by rw[g];exact I.rows _ (x0s C)
 obtain⟨row,A⟩ : ∃row,row=st.R.getD b.toNat []:=⟨_,rfl⟩;rw[<-A]at U g;have hjl:(ZB row goes).length=w:=by rw[Y4 (by omega)];exact U
 obtain⟨k,z⟩ : ∃k,k=st.R.set b.toNat (ZB row goes):=⟨_,rfl⟩;have v:∀x:Int,0<=x->k.getD x.toNat []=if x=b then ZB row goes else st.R.getD x.toNat []:=fun x p=>by
  rw[z];by_cases d:x=b
  .rw [d,if_pos rfl,x0y,x2p C];rfl
  .rw [if_neg d,x0y,x2i (by omega),x0y]
 have E:∀x:Int,0<=x->∀f,f/64<w->bitW (st.R.getD x.toNat []) f=true->bitW (k.getD x.toNat []) f=true:=fun x p f M i=>by
  rw[v x p];split
  .rename_i d;rw[d,<-A]at i;rw[GW (by omega) (by omega),i];rfl
  .exact i
 have G:∀x∈(nx.getD a.toNat []).take (j+1),∀f,f/64<w->bitW goes f=true->bitW (k.getD x.toNat []) f=true:=fun x p f M hg=>by
  have m:0<=x:=by
   have L:=x6c p;rw[x0y]at L;cases H:nx[a.toNat]?with
   |none=>rw[H]at L;cases L
   |some r=>rw[H]at L;exact(hnx r (x0i H) x L).1
  rw[htk]at p;rcases x0r.1 p with p|p
  .exact E x m f M (hpr x p f M hg)
  .rw [x0b]at p;rw[v x m,if_pos p,GW (by omega) (by omega),hg,Bool.or_true]
 have hI:∀(l:List Int)(q:List Bool),l.Nodup->q.length=n->(∀b∈l,0<=b/\b<n)->(∀b:Int,0<=b->b<n->(q.getD b.toNat false=true↔b∈l))->SvI n w nx gen kill ⟨k,l,q⟩:=fun l q Y Z h3 h4=>by
  refine⟨by rw[z,x3g];exact I.len,fun r hr=>?_,Z,Y,h3,h4,fun x m B f M i=>?_⟩
  .rw [z]at hr;rcases x4j hr with h|h
   .exact I.rows r h
   .rw [h];exact hjl
  .have i:bitW (k.getD x.toNat []) f=true:=i;rw[v x m]at i;split at i
   .rename_i d;subst d;rw[GW (by omega) (by omega),x3i]at i;rcases i with i|i
    .exact I.snd x m B f M (A▸i)
    .exact hgs f M i x c
   .exact I.snd x m B f M i
 have hcnt:=AT (w:=w) st.R b.toNat (ZB row goes) C;rw[<-z,<-g]at hcnt;cases hm:Qx row goes row.length with
 | false=>
   have V:=CJ (by omega) hm;have F:k=st.R:=by
    rw[z,V,g];exact List.set_getElem_self C
   have e:jnE goes st b=⟨k,st.todo,st.waits⟩:=by
    unfold jnE;rw[<-A,hm,Bool.false_and,x1g,<-z]
   rw[e];refine⟨⟨hI _ _ I.nd I.wl I.rng I.wt,?_,?_,G⟩,?_⟩
   .rw [F];exact hcl
   .rw [F];exact hgo
   .rw [F];exact x0o _
 | true=>
   have hc2:=EA (w:=w) U hgl hm;have O:∀l:List Int,(∀x,x∈st.todo->x∈l)->b∈l->∀x:Int,0<=x->x<n->x∉l->x≠a->closedA n w nx gen kill k x:=fun l Y Z x m B p hxa y T f M hg=>by
    have hxb:x≠b:=fun d=>p (d▸Z);have hy0:0<=y:=by
     rw[x0y]at T;cases H:nx[x.toNat]?with
     |none=>rw[H]at T;cases T
     |some r=>rw[H]at T;exact(hnx r (x0i H) y T).1
    refine E y hy0 f M (hcl x m B (fun h=>p (Y x h)) hxa y T f M ?_);unfold goA at hg⊢
    rwa[v x m,if_neg hxb]at hg
   have Q:∀l:List Int,(∀x,x∈st.todo->x∈l)->b∈l->a∉l->goA w gen kill k a.toNat=goes:=fun l Y Z h3=>by
    have hab:a≠b:=fun d=>h3 (d▸Z);rw[<-hgo fun h=>h3 (Y a h)];unfold goA;rw[v a ha0,if_neg hab]
   cases J:st.waits.getD b.toNat false with
   | true=>
     have N:=(I.wt b D.1 D.2).1 J;have e:jnE goes st b=⟨k,st.todo,st.waits⟩:=by
      unfold jnE;rw[<-A,hm,J,Bool.not_true,Bool.and_false,x1g,<-z]
     rw[e];refine⟨⟨hI _ _ I.nd I.wl I.rng I.wt,O st.todo (fun _ h=>h) N,Q st.todo (fun _ h=>h) N,G⟩,?_⟩;show VT w st.R+st.todo.length<=VT w k+st.todo.length;omega
   | false=>
     have N:b∉st.todo:=fun h=>by
      rw[(I.wt b D.1 D.2).2 h]at J;cases J
     have e:jnE goes st b=⟨k,st.todo++[b],st.waits.set b.toNat true⟩:=by
      unfold jnE;rw[<-A,hm,J,Bool.not_false,Bool.and_true,x1u,<-z]
     have hwl:b.toNat<st.waits.length:=by have:=I.wl;omega
     rw[e];refine⟨⟨hI _ _ ?_ (by rw[x3g];exact I.wl) (fun x p=>?_) (fun x m B=>?_),O _ (fun _ h=>x2x _ h) (x2r _ (x0b.2 rfl)),Q _ (fun _ h=>x2x _ h) (x2r _ (x0b.2 rfl)),G⟩,?_⟩
     .rw [x2b];exact⟨I.nd,by simp,fun x p y T d=>N (by rw[<-x0b.1 T,<-d];exact p)⟩
     .rcases x0r.1 p with p|p
      .exact I.rng x p
      .rw [x0b.1 p];exact D
     .rw [x0r,x0b];by_cases d:x=b
      .subst d;rw[x0y,x2p hwl];simp
      .rw [x0y,x2i (by omega),<-x0y,I.wt x m B];simp[d]
     .show VT w st.R+(st.todo++[b]).length<=VT w k+st.todo.length;rw[x0g,x1h];omega
omit hnx in
def IS{a:Int}{r:List Int}{st:SvS}(h:SvI n w nx gen kill st)(y:∀x:Int,0<=x->x<n->x∉st.todo->closedA n w nx gen kill st.R x)(p:st.todo=a::r):
  SvJ n w nx gen kill a (goA w gen kill st.R a.toNat) 0 ⟨st.R,r,st.waits.set a.toNat false⟩/\∀f,f/64<w->bitW (goA w gen kill st.R a.toNat) f=true->∀b∈nx.getD a.toNat [],SolP nx gen kill f b:=by
 have i:=h.rng a (by rw[p];exact x0k);have j:=h.nd;rw[p,x2u]at j;have z:a.toNat<st.waits.length:=by have:=h.wl;omega
 refine⟨⟨⟨h.len,h.rows,by rw[x3g];exact h.wl,j.2,fun b k=>h.rng b (by rw[p];exact x0f _ k),fun b q v=>?_,h.snd⟩,fun x c e C d=>y x c e (by rw[p,x0p];rintro(l|l);exact d l;exact C l),fun _=>rfl,fun b k=>by simp at k⟩,fun f g m b k=>?_⟩
 .by_cases l:b=a
  .subst l;rw[x0y,x2p z];simp[j.1]
  .show (st.waits.set a.toNat false).getD b.toNat false=true↔b∈r;rw[x0y,x2i (by omega),<-x0y,h.wt b q v,p,x0p];simp[l]
 .unfold goA at m;rw[U3 g,x3i,x1z,x3f]at m;rcases m with m|⟨A,B⟩
  .exact .gen i.1 m k
  .exact .go i.1 (h.snd a i.1 i.2 f g A) B k
omit hnx in
def I1{a:Int}{goes:List Wd}{st:SvS}(h:SvJ n w nx gen kill a goes (nx.getD a.toNat []).length st):∀x:Int,0<=x->x<n->x∉st.todo->closedA n w nx gen kill st.R x:=fun x j k m=>by
 by_cases l:x=a
 .subst l;have v:=h.go m;intro b p f q i;rw[v]at i;exact h.pr b (by rw[x5o];exact p) f q i
 .exact h.cl x j k m l
omit hnx in
def Ow{st:SvS}(h:SvI n w nx gen kill st)(m:∀x:Int,0<=x->x<n->x∉st.todo->closedA n w nx gen kill st.R x)(y:st.todo=[])(d:nx.length<=n){b:Int}(k:0<=b)(l:b<n){f:Nat}(p:f/64<w):bitW (st.R.getD b.toNat []) f=true↔SolP nx gen kill f b:=by
 refine⟨h.snd b k l f p,fun e=>?_⟩;have q:∀{a:Int}{b:Int},0<=a->b∈nx.getD a.toNat []->a<n:=fun {a b} j i=>by
  rw[x0y]at i;cases v:nx[a.toNat]?with
  |none=>rw[v]at i;cases i
  | some r=>
    have:=(x0m.1 v).1;omega
 clear k l;induction e with
 | @gen a b j z i=>
   refine m a j (q j i) (by rw[y];simp) b i f p ?_;unfold goA;rw[U3 p,z];rfl
 | @go a b j _ c i g=>
   refine m a j (q j i) (by rw[y];simp) b i f p ?_;unfold goA;rw[U3 p,g,c,Bool.not_false,Bool.and_true,Bool.or_true]
omit hnx in
def AW(z:nx.length<=n):SvI n w nx gen kill ⟨List.replicate n (List.replicate w 0),(List.range n).map ofNat,List.replicate n true⟩:=by
 refine⟨by simp,fun r hr=>by rw[(x6j.1 hr).2];simp,by simp,?_,fun b m=>?_,fun b k l=>?_,fun b k l f v h=>?_⟩
 .exact x6a.map _ fun x y j p=>j (Int.ofNat.inj p)
 .obtain ⟨x,q,rfl⟩:=x0n.1 m;have:=x1a.1 q;exact⟨x5l _,by show(x:Int)<n;omega⟩
 .have i:b.toNat<n:=by omega
  simp only[x0y,x1b,if_pos i,x2k,true_iff];exact x0n.2 ⟨b.toNat,x1a.2 i,by show((b.toNat:Nat):Int)=b;omega⟩
 .have i:b.toNat<n:=by omega
  simp only[x0y,x1b,if_pos i,x2k]at h;rw[Bo]at h;cases h
end
inductive MrA(k a q n:Nat)(two:Bool):List LV->List LV->Prop
 |nil:MrA k a q n two [] []
 |row {ls ls0:List LV} (hs:MrA k a q n two ls ls0):MrA k a q n two (.ext k (.row a n)::ls) (.hd 1000 0 n::ls0)
 |own {m:Nat} {ls ls0:List LV} (ht:two=true) (hs:MrA k a q n two ls ls0):MrA k a q n two (.hd q 0 m::ls) (.hd 1001 0 m::ls0)
 |p {x y:AV} {ls ls0:List LV} (h:Sub x y) (hs:MrA k a q n two ls ls0):MrA k a q n two (.p x::ls) (.p y::ls0)
theorem MrA.get{k a q n:Nat}{e:Bool}{ls c:List LV}(h:MrA k a q n e ls c):ls.length=c.length/\∀(j:Nat)(v:LV),c[j]?=some v->∃l,ls[j]?=some l/\((l=.ext k (.row a n)/\v=.hd 1000 0 n)\/(∃m,e=true/\l=.hd q 0 m/\v=.hd 1001 0 m)\/∃x y,l=.p x/\v=.p y/\Sub x y):=by
 induction h with
 |nil=>exact⟨rfl,by simp⟩
 | row f z=>
   refine⟨by simp[z.1],fun j v i=>?_⟩;cases j with
   |zero=>simp at i;subst i;exact⟨_,rfl,.inl ⟨rfl,rfl⟩⟩
   |succ j=>exact z.2 j v (by simpa using i)
 | own g f z=>
   refine⟨by simp[z.1],fun j v i=>?_⟩;cases j with
   |zero=>simp at i;subst i;exact⟨_,rfl,.inr (.inl ⟨_,g,rfl,rfl⟩)⟩
   |succ j=>exact z.2 j v (by simpa using i)
 | p h f z=>
   refine⟨by simp[z.1],fun j v i=>?_⟩;cases j with
   |zero=>simp at i;subst i;exact⟨_,rfl,.inr (.inr ⟨_,_,rfl,rfl,h⟩)⟩
   |succ j=>exact z.2 j v (by simpa using i)
def Sq{H:Heap}(h:(H.map (·.1)).Nodup){k:Nat}{c d:Chunk}(l:(k,c)∈H)(m:(k,d)∈H):c=d:=by
 induction H with
 |nil=>cases l
 | cons x r p=>
   rw[x1j,x2u]at h;rcases x0p.1 l with j|j
   .rcases x0p.1 m with i|i
    .exact (Prod.mk.inj (j.trans i.symm)).2
    .exact (h.1 (x0n.2 ⟨_,i,by rw[<-j]⟩)).elim
   .rcases x0p.1 m with i|i
    .exact (h.1 (x0n.2 ⟨_,j,by rw[<-i]⟩)).elim
    .exact p h.2 j i
def Zm{N:Nat}{K:St->Prop}{g:FuncId}{args args0:List LV}{dst:Option Nat}(k a q:Nat)(C:Bool){e e2 sz e3 sz3:Nat}{rows:List (List AV)}{row Y:List AV}(row':List AV){R:LV->Heap->Prop}{S:AV->Prop}(ha:MrA k a q row.length C args args0)(hs:SpecH P g args0 ((1000,.own e2 sz row)::bif C then [(1001,.own e3 sz3 Y)]else []) R)(hg:getH s.H k=some (.ext (.mat e e2 sz rows [])))(hrow:rows[a]?=some row)(hne:0<row.length)(hq:C=true->getH s.H q=some (.own e3 sz3 Y)/\k≠q)(hR:∀l H',R l H'->∃c,l=.p c/\S c/\H'=(1000,.own e2 sz row')::bif C then [(1001,.own e3 sz3 Y)]else [])(hlen:row'.length=row.length)(h:∀c,S c->Ja s.H k (.ext (.mat e e2 sz (rows.set a row') [])) fun H=>setD N s.sl dst (.p c) fun sl=>K ⟨sl,H⟩):CallK P N g args dst s K:=by
 refine⟨fun σ β ac w hr vals hn hv=>⟨hs.go vals,?_⟩⟩;have Q:=QM hg;have hal:a<rows.length:=(x0m.1 hrow).1;rcases hr.heap.chunks k _ (QD hg)with⟨_,h0⟩|⟨i,vs,hi,hisz,hh,hvs,hle,hmax,hsl,hdis,hrows⟩
 .rw [h0]at hal;cases hal
 rcases(hrows a row hrow).2 (by simp)with⟨_,G,_⟩|⟨b,c,ws,hsb,hva,hbh,hws,hrl,hc,hel⟩
 .rw [G]at hne;cases hne
 let ri:BInfo:=⟨b,c,sz,[],hc⟩;let β0:Lab:=fun j=>if j=1000 then some ri else if j=1001 then(bif C then β q else none)else none;have hri:∀z,ri.has z->z=b:=fun z F=>by
  rcases F with F|⟨c',F⟩
  .exact F.symm
  .cases F
 have hib:i.has b:=.inr ⟨c,x0i hsb⟩;have e0:β0 1000=some ri:=rfl;have e1:C=true->β0 1001=β q:=fun A=>by show(bif C then β q else none)=_;rw[A];rfl
 let H0:Heap:=(1000,.own e2 sz row)::bif C then [(1001,.own e3 sz3 Y)]else [];have hlab0:∀j∈H0.map (·.1),j=1000\/(C=true/\j=1001):=fun j B=>by
  simp only[H0,x1j,x0p]at B;rcases B with B|B
  .exact .inl B
  .cases A:C with
   |true=>rw[A]at B;exact .inr ⟨rfl,by simpa using B⟩
   |false=>rw[A]at B;cases B
 have hq1:C=true->q∈s.H.map (·.1):=fun A=>QM (hq A).1;have V:∀j∈H0.map (·.1),∀L,β0 j=some L->∀z,L.has z->(j=1000/\z=b)\/(C=true/\j=1001/\∃T,β q=some T/\T.has z):=fun j B L D z F=>by
  rcases hlab0 j B with rfl|⟨A,rfl⟩
  .rw [e0]at D;cases D;exact .inl ⟨rfl,hri z F⟩
  .rw [e1 A]at D;exact .inr ⟨A,rfl,L,D,F⟩
 have hown:∀z,owns β0 H0 z->z=b\/(C=true/\∃T,β q=some T/\T.has z):=fun z ⟨j,B,L,D,F⟩=>by
  rcases V j B L D z F with⟨_,h⟩|⟨A,_,h⟩
  .exact .inl h
  .exact .inr ⟨A,h⟩
 have hownS:∀z,owns β0 H0 z->owns β s.H z:=fun z ho=>by
  rcases hown z ho with rfl|⟨A,T,G,J⟩
  .exact ⟨k,Q,i,hi,hib⟩
  .exact ⟨q,hq1 A,T,G,J⟩
 have hH0:HRel σ β0 H0 w:=by
  refine⟨hr.heap.mem,fun j d B=>?_,?_,fun j B L D z F=>?_,fun j B j' hj' i1 i2 G J z hb1 hb2=>?_⟩
  .simp only[H0,x0p]at B;rcases B with B|B
   .cases B;exact .inr ⟨ri,ws,e0,rfl,hbh,hws,hrl,hc,hel⟩
   .cases A:C with
    |false=>rw[A]at B;cases B
    | true=>
      rw[A,x1u,x0b]at B;cases B;have:=hr.heap.chunks q _ (QD (hq A).1);rcases this with⟨G,J⟩|⟨i2,rest⟩
      .exact .inl ⟨(e1 A).trans G,J⟩
      .exact .inr ⟨i2,by rw[e1 A];exact rest⟩
  .cases C<;>simp[H0]
  .rcases V j B L D z F with⟨_,rfl⟩|⟨A,_,T,G,J⟩
   .exact hr.heap.apart k Q i hi _ hib
   .exact hr.heap.apart q (hq1 A) T G z J
  .rcases V j B i1 G z hb1 with⟨rfl,rfl⟩|⟨A,rfl,T,Z,h4⟩<;>rcases V j' hj' i2 J _ hb2 with⟨rfl,h5⟩|⟨ht2,rfl,iq2,h5,I⟩
   .rfl
   .exact absurd (hr.heap.inj k Q q (hq1 ht2) i iq2 hi h5 _ hib I) (hq ht2).2
   .subst h5;exact absurd (hr.heap.inj k Q q (hq1 A) i T hi Z _ hib h4) (hq A).2
   .rfl
 obtain⟨hal0,hget⟩:=ha.get;refine(hs.ok σ β0 w vals (hn.trans hal0) (fun j l0 B=>?_) hH0).mono fun ex w' ⟨l,u,σ',β1,H',he,hRl,hrep,hH',f⟩=>?_
 .obtain ⟨l,G,⟨rfl,rfl⟩|⟨m,A,rfl,rfl⟩|⟨x,y,rfl,rfl,J⟩⟩:=hget j l0 B
  .have Z:=hv j _ G;generalize vals.getD j undef=v at Z;cases Z with
   | ext _ _ L _ hk hd=>
     rw[hi]at hk;cases hk;rcases hd with⟨h4,_⟩|⟨z,c',h4,h5,rfl⟩
     .rw [hsb]at h4;cases h4
     .rw [hsb]at h4;cases h4;have:=x7w (σ:=σ) (β:=β0) 1000 0 row.length ri 0 e0 (by simpa using hrl) (.inl (by simp));simpa using this
  .have Z:=hv j _ G;rcases Z.hdI with⟨h4,_,h5,I⟩|⟨i3,o,h4,h5,I,h7⟩
   .subst h5;rw[I];exact .hdn 1001 ((e1 A).trans h4)
   .rw [h7];exact .hd 1001 0 m i3 o ((e1 A).trans h4) h5 I
  .have Z:=hv j _ G;cases Z with
   |p Z=>exact .p (J _ _ Z)
 .obtain ⟨c0,rfl,hS,rfl⟩:=hR l H' hRl;have p0:β1 1000=some ri:=(f.pin 1000 (by omega) (by omega)).trans e0;have p1:C=true->β1 1001=β q:=fun A=>(f.pin 1001 (by omega) (by omega)).trans (e1 A);have U:∀z,z<w.heap.size->¬owns β0 H0 z->w'.heap[z]?=w.heap[z]?:=fun z F hn=>f.O.block z F hn;have hstay:∀z,owns β0 H0 z->σ' z=none:=fun z ho=>by
   rcases hown z ho with rfl|⟨A,T,G,J⟩
   .exact (hH'.apart 1000 (by simp) ri p0 _ ri.has_blk).1
   .exact (hH'.apart 1001 (by rw[A];simp) T ((p1 A).trans G) z J).1
  have hnew:∀z,σ z=none->z<w.heap.size->σ' z=none:=fun z G J=>by
   cases hq:σ' z with
   |none=>rfl
   | some x=>
     rcases f.mem z G (by rw[hq];simp)with Z|Z
     .rw [hstay z Z]at hq;cases hq
     .omega
  have M:∀j∈s.H.map (·.1),(C=true->j≠q)->∀L,β j=some L->∀z,L.has z->(j=k->z≠b)->w'.heap[z]?=w.heap[z]?:=fun j B hjq L D z F hjb=>by
   refine U z (hr.heap.apart j B L D z F).2 fun ho=>?_;rcases hown z ho with rfl|⟨A,T,G,J⟩
   .have:=hr.heap.inj j B k Q L i D hi _ F hib;exact hjb this rfl
   .exact hjq A (hr.heap.inj j B q (hq1 A) L T D G z F J)
  obtain⟨H2,J,g3,g4,g5⟩:=YA hr.heap.nodup (h c0 hS);have hkq:C=true->k≠q:=fun A=>(hq A).2;have hheap:HRel σ' β H2 w':=by
   refine⟨hH'.mem,fun j d B=>?_,by rw[g3];exact hr.heap.nodup,fun j B L D z F=>?_,fun j B j' hj'=>hr.heap.inj j (g3▸B) j' (g3▸hj')⟩
   .by_cases hjk:j=k
    .subst hjk;rw[g5 d B];have hblk:w'.heap[i.blk]?=w.heap[i.blk]?:=M _ Q hkq i hi i.blk i.has_blk fun _ he=>(hdis a b c hsb).1 he;refine .inr ⟨i,vs,hi,hisz,hblk.trans hh,hvs,by simpa using hle,hmax,by simpa using hsl,hdis,fun p x hx=>⟨fun hin=>by(cases hin),fun _=>?_⟩⟩;by_cases hp:p=a
     .subst hp;rw[x2p hal]at hx;cases hx;rcases hH'.chunks 1000 _ x0k with⟨I,_⟩|⟨i6,ws6,I,h7,h8,h9,h10,h11,h12⟩
      .rw [p0]at I;cases I
      .rw [p0]at I;cases I;exact .inr ⟨b,c,ws6,hsb,by rw[hlen];exact hva,h8,h9,h10,h11,h12⟩
     .rw [x2i (x4g hp)]at hx;rcases(hrows p x hx).2 (by simp)with I|⟨z,c',ws',I,h7,h8,h9,h10,h11,h12⟩
      .exact .inl I
      .have hbb:z≠b:=fun he=>hp ((hdis a b c hsb).2 p c' (he▸I));refine .inr ⟨z,c',ws',I,h7,(M _ Q hkq i hi z (.inr ⟨c',x0i I⟩) fun _=>hbb).trans h8,h9,h10,h11,fun m y hy=>⟨(h12 m y hy).1,fun j' c'' hj'=>?_⟩⟩;obtain⟨u',h13,h14⟩:=(h12 m y hy).2 j' c'' hj';exact⟨u',h13,h14.mono f.le⟩
    .have hm:=g4 j d B hjk;have hjl:j∈s.H.map (·.1):=x0n.2 ⟨_,hm,rfl⟩;by_cases hjq:C=true/\j=q
     .obtain ⟨A,rfl⟩:=hjq;have hd:d=.own e3 sz3 Y:=by
       have:=QD (hq A).1;exact Sq hr.heap.nodup hm this
      subst hd;have hq':=hH'.chunks 1001 (.own e3 sz3 Y) (by rw[A];simp);rcases hq' with⟨I,h7⟩|⟨i6,rest⟩
      .exact .inl ⟨(p1 A).symm.trans I,h7⟩
      .exact .inr ⟨i6,by rw[<-p1 A];exact rest⟩
     .exact (hr.heap.chunks j d hm).mono f.le fun i' hi' z F=>M j hjl (fun A he=>hjq ⟨A,he⟩) i' hi' z F fun he=>absurd he hjk
   .have:=hr.heap.apart j (g3▸B) L D z F;exact⟨hnew z this.1 this.2,x4u this.2 f.O.size⟩
  have hr1:Rel N σ' β ⟨s.sl,H2⟩ ac w':=⟨hr.size,hr.defers,fun j=>(hr.E j).mono f.le,hheap⟩;have hrep':RepL σ' β (.p c0) u:=by
   cases hrep with
   |p hrep=>exact .p hrep
  obtain⟨sl,hK,hr2⟩:=hr1.setD hrep' J;refine⟨u,σ',β,_,he,hK,hr2,f.le,⟨f.O.os,f.O.tape,f.O.output,f.O.drawn,f.O.size,fun z F hn=>U z F fun ho=>hn (hownS z ho)⟩,fun z G J=>(f.mem z G J).imp (hownS z) id,fun z ⟨j,B,r⟩=>.inl ⟨j,g3▸B,r⟩,fun _ _ _=>rfl⟩
def K3{T:Tab}(hT:TabOK P T){x:Operand}(q:o.op=.binOp .eql t x (.const (.slice none 0 0)) u){i:TyI}(F:T.get t=some i){e:TypeId}(A:i.desc=.slice e){es:List AV}(G:QL s.sl x=.p (.sl es))(g:∀b:Bool,(b=true->es=[])->K (.p (.bool b))):ValO P hr s o K:=by
 refine⟨fun σ β l w D _=>?_⟩;have k:=QZ D x;rw[G]at k;have d:=hT.of F;rw[A]at d;have y:∃j n c,l.eval x=.slice j n c/\(j.isNone=true->es=[]):=by
  generalize l.eval x=v at k;cases k with
  | p k=>
    cases k with
    |nilsl=>exact⟨none,0,0,rfl,fun _=>rfl⟩
    |slz b=>exact⟨some b,0,0,rfl,fun _=>rfl⟩
    |sl _ b off cap sz cells u H z a E I C=>exact⟨_,_,_,rfl,fun h=>(by cases h)⟩
 obtain⟨j,n,c,y,m⟩:=y;refine⟨_,.bool j.isNone,g j.isNone m,.p (.bool _),fun w' _ _=>?_⟩;have f:l.eval (.const (.slice none 0 0))=.slice none 0 0:=rfl;have B:(eqGuard .eql t x (.const (.slice none 0 0)) (.slice j n c) (.slice none 0 0)).run P w'=.ok () w':=by unfold eqGuard;rfl
 have m:(Op.equal t (.slice j n c) (.slice none 0 0)).run P w'=.ok j.isNone w':=by
  have e:Op.equal t (.slice j n c) (.slice none 0 0)=Op.equalIn (9999+1) t (.slice j n c) (.slice none 0 0):=rfl;rw[e,Op.equalIn,Sem.run_bind,run_underlying d,Result.andThen_ok];cases j<;>rfl
 simp only[execOp,q,y,f,Sem.run_bind,B,Result.andThen_ok,binOp];simp[m]
def TQ{L:List Str}{es:List AV}{n:Nat}{nil:Prop}(q:Nat)(i:es=L.map .str)(h:n=L.length):OneRow (H4 L) nil (.hd q 0 n) [(q,.own 9 1 es)]:=by
 subst i;exact .inr ⟨q,_,_,_,by rw[h,x0j],rfl,Tu L,rfl,rfl,rfl⟩
def WQ(l:List Str)(j:l.length<=1000000):SpecH prog 170 [.p (eStrs l)] [] (fun r H=>OneRow (H4 l) (l=[]) r H):=by
 refine sH YV func170 rfl call170 ?_;conv=>whnf
 repeat' (first|((first|refine x0h rfl ?_|refine aD ?_|refine K3 QK rfl rfl rfl rfl (fun q h=>?_)|refine x6n (fun x i=>by cases i) rfl ?_|refine KC _ (by simp) (by simp;omega) ?_);conv=>whnf)|(apply bB<;>intro _<;>conv=>whnf))
 all_goals first
  |exact x4t _ (x1v _) (.inl ⟨rfl,rfl,x6z.1 (h (by assumption))⟩)
  |exact x4t _ (x1v _) (TQ 0 rfl (by simp))
inductive CutH:Heap->Heap->Prop
 |nil:CutH [] []
 |same {c:Nat×Chunk} {H H':Heap} (h:CutH H H'):CutH (c::H) (c::H')
 |cut {k:Nat} {e:TypeId} {sz:Nat} {es es':List AV} {H H':Heap} (hp:es' <+: es) (h:CutH H H'):CutH ((k,.own e sz es)::H) ((k,.own e sz es')::H')
theorem CutH.get{H H':Heap}(h:CutH H H'):H'.map (·.1)=H.map (·.1)/\∀j c',(j,c')∈H'->(j,c')∈H\/∃e sz es es',(j,Chunk.own e sz es)∈H/\c'=.own e sz es'/\es' <+: es:=by
 induction h with
 |nil=>exact⟨rfl,by simp⟩
 | same h m=>
   refine⟨by simp[m.1],fun j c' i=>?_⟩;rcases x0p.1 i with rfl|i
   .exact .inl x0k
   .rcases m.2 j c' i with l|⟨e,sz,es,es',l,q⟩
    .exact .inl (x0f _ l)
    .exact .inr ⟨e,sz,es,es',x0f _ l,q⟩
 | @cut k e sz es es' H H' v h m=>
   refine⟨by simp[m.1],fun j c' i=>?_⟩;rcases x0p.1 i with i|i
   .cases i;exact .inr ⟨e,sz,es,es',x0k,rfl,v⟩
   .rcases m.2 j c' i with l|⟨e,sz,es,es',l,q⟩
    .exact .inl (x0f _ l)
    .exact .inr ⟨e,sz,es,es',x0f _ l,q⟩
theorem Le.cut{N:Nat}{sl:List (Nat×LV)}{H H':Heap}(h:CutH H H'):Le N ⟨sl,H⟩ ⟨sl,H'⟩:=fun σ β a w hr=>by
 obtain⟨v,I⟩:=h.get;refine⟨σ,β,⟨hr.size,hr.defers,hr.E,⟨hr.heap.mem,fun j c' l=>?_,by show(H'.map (·.1)).Nodup;rw[v];exact hr.heap.nodup,fun j l=>hr.heap.apart j (by rw[<-v];exact l),fun j l J f=>hr.heap.inj j (by rw[<-v];exact l) J (by rw[<-v];exact f)⟩⟩,Mem.le_refl σ,Frm.refl _ w,fun b A q=>absurd A q,fun b ⟨j,l,r⟩=>.inl ⟨j,by rw[<-v];exact l,r⟩,fun _ _ _=>rfl⟩;rcases I j c' l with q|⟨e,sz,es,es',q,rfl,y⟩
 .exact hr.heap.chunks j c' q
 .rcases hr.heap.chunks j _ q with⟨z,c⟩|⟨i,vs,z,c,B,C,D,F,G⟩
  .refine .inl ⟨z,?_⟩;rw[c]at y;exact List.prefix_nil.1 y
  .exact .inr ⟨i,vs,z,c,B,C,x1t y.length_le D,F,fun m x g=>G m x (by
    obtain⟨t,rfl⟩:=y;rw[x2j (x0m.1 g).1];exact g)⟩
def Ee:List Str->Nat
 |[]=>0
 |s::r=>1+Ee r
mutual
def wX:X->Nat
 |.mk _ _ name kids=>1+wXs kids
def wXs:List X->Nat
 |[]=>0
 |x::r=>wX x+wXs r
end
def Zu:List Arg->Nat
 |[]=>0
 |a::r=>wX a.x+1+Zu r
mutual
def wS:S->Nat
 |.mk _ _ M name C x _ args F L=>wX x+Ee M+1+1+Zu args+wL F+wL L
def wL:List S->Nat
 |[]=>0
 |s::r=>wS s+wL r
end
def q6x:List Param->Nat
 |[]=>0
 |a::r=>1+q6x r
def wPr(f:Pr):Nat:=1+Ee f.Q+Ee f.fin+q6x f.B+wL f.body
def q3b:List Pr->Nat
 |[]=>0
 |f::r=>wPr f+q3b r
def wPg(p:Pg):Nat:=Ee p.D+q3b p.A
def Fit(p:Pg):Prop:=wPg p<=20000
theorem Df:∀l:List Str,l.length<=Ee l
 |[]=>x0l _
 |s::r=>by have:=Df r;simp only[x1r,Ee];omega
theorem Qt:∀l:List Arg,l.length<=Zu l
 |[]=>x0l _
 |s::r=>by have:=Qt r;simp only[x1r,Zu];omega
def Ef(s:S):wS s=wX s.x+Ee s.M+1+1+Zu s.args+wL s.F+wL s.L:=by
 cases s;rw[wS];rfl
mutual
theorem q3c:∀s:S,ZD s<=wS s
 | .mk id kind M name C x has args F L=>by
   have:=Rx F;have:=Rx L;rw[ZD,wS];omega
theorem Rx:∀l:List S,QW l<=wL l
 |[]=>by rw[QW,wL];exact x0o _
 | s::r=>by
   have:=q3c s;have:=Rx r;rw[QW,wL];omega
end
theorem Eh:∀{l:List Pr}{f:Pr},f∈l->wPr f<=q3b l
 | g::r,f,h=>by
   simp only[q3b];rcases x0p.1 h with rfl|h
   .omega
   .have:=Eh h;omega
theorem Fit.pr{p:Pg}(h:Fit p){f:Pr}(i:f∈p.A):wPr f<=20000:=by
 have:=Eh i;unfold Fit wPg at h;omega
mutual
def flS:S->List S
 |.mk id kind M name C x has args F L=>.mk id kind M name C x has args F L::(flL F++flL L)
def flL:List S->List S
 |[]=>[]
 |s::r=>flS s++flL r
end
def q4j(s:S):flS s=s::(flL s.F++flL s.L):=by
 cases s;rw[flS];rfl
mutual
theorem q0i:∀s:S,(flS s).length=ZD s
 | .mk id kind M name C x has args F L=>by
   rw[flS,ZD,x1r,x0g,Uw F,Uw L];omega
theorem Uw:∀l:List S,(flL l).length=QW l
 |[]=>by rw[flL,QW];rfl
 |s::r=>by rw[flL,QW,x0g,q0i s,Uw r]
end
mutual
theorem q6g:∀(s t:S),t∈flS s->wS t<=wS s
 | .mk id kind M name C x has args F L,t,h=>by
   rw[flS]at h;rcases x0p.1 h with rfl|h
   ·exact x0o _
   ·rw[wS];rcases x0r.1 h with h|h
    ·have:=Ml F t h;omega
    ·have:=Ml L t h;omega
theorem Ml:∀(l:List S)(t:S),t∈flL l->wS t<=wL l
 |[],t,h=>by rw[flL]at h;cases h
 | s::r,t,h=>by
   rw[flL]at h;rw[wL];rcases x0r.1 h with h|h
   ·have:=q6g s t h;omega
   ·have:=Ml r t h;omega
end

mutual
def itS(C up nx loop:Int)(n:Nat):S->List Item
 | .mk id kind M name pr x has args F L=>
   ⟨.mk id kind M name pr x has args F L,C,up,nx,loop⟩::(itL C (n+1) (if kind=6 then n+1 else nx) (if kind=6 then n+1 else loop) (n+1) F ++
     itL C (n+1) (if kind=6 then n+1 else nx) (if kind=6 then n+1 else loop) (n+1+QW F) L)
def itL(C up nx loop:Int)(n:Nat):List S->List Item
 |[]=>[]
 |t::r=>itS C up (if r.isEmpty then nx else n+1+ZD t) loop n t++itL C up nx loop (n+ZD t) r
end
def OJ(C i nx h:Int)(n:Nat)(t:S):itS C i nx h n t=⟨t,C,i,nx,h⟩::(itL C (n+1) (if t.kind=6 then n+1 else nx) (if t.kind=6 then n+1 else h) (n+1) t.F ++
   itL C (n+1) (if t.kind=6 then n+1 else nx) (if t.kind=6 then n+1 else h) (n+1+QW t.F) t.L):=by
 cases t;rw[itS];rfl
mutual
theorem q2v(C up nx loop:Int):∀(t:S)(acc:List Item),Vy C up nx loop acc t=acc++itS C up nx loop acc.length t
 | .mk id kind M name pr x has args F L,acc=>by
   rw[Vy,itS,Qg _ _ _ _ F,Qg _ _ _ _ L];simp only[x0g,x1r,x4s,x1k,List.cons_append,x5k,ZH C _ _ _ _ F,x3v,x3o,x6r (QW F) 1]
theorem Qg(C up nx loop:Int):∀(l:List S)(acc:List Item),XF C up nx loop acc l=acc++itL C up nx loop acc.length l
 |[],acc=>by rw[XF,itL,x2v]
 | t::r,acc=>by
   rw[XF,itL,q2v _ _ _ _ t,Qg _ _ _ _ r];simp only[x0g,x1k,L3 C _ _ _ _ t]
theorem L3(C up nx loop:Int)(n:Nat):∀t:S,(itS C up nx loop n t).length=ZD t
 | .mk id kind M name pr x has args F L=>by
   rw[itS,ZD,x1r,x0g,ZH _ _ _ _ _ F,ZH _ _ _ _ _ L];omega
theorem ZH(C up nx loop:Int)(n:Nat):∀l:List S,(itL C up nx loop n l).length=QW l
 |[]=>by rw[itL,QW];rfl
 |t::r=>by rw[itL,QW,x0g,L3 _ _ _ _ _ t,ZH _ _ _ _ _ r]
end
mutual
theorem q6n(C up nx loop:Int)(n:Nat):∀t:S,(itS C up nx loop n t).map Item.s=flS t
 | .mk id kind M name pr x has args F L=>by
   rw[itS,flS,x1j,x0c,Q4 _ _ _ _ _ F,Q4 _ _ _ _ _ L]
theorem Q4(C up nx loop:Int)(n:Nat):∀l:List S,(itL C up nx loop n l).map Item.s=flL l
 |[]=>by rw[itL,flL];rfl
 |t::r=>by rw[itL,flL,x0c,q6n _ _ _ _ _ t,Q4 _ _ _ _ _ r]
end
def QR:List Pr->Nat->Nat
 |_,0=>0
 |[],_+1=>0
 |f::r,i+1=>QW f.body+QR r i
theorem N5:∀(l:List Pr)(i:Nat)(acc:List Item)(lo hi:List Int),lo.length=i->hi.length=i->
  (Jj i acc lo hi l).2.1.length=i+l.length/\(Jj i acc lo hi l).2.2.length=i+l.length/\
  (∀k,k<i->(Jj i acc lo hi l).2.1[k]?=lo[k]? /\(Jj i acc lo hi l).2.2[k]?=hi[k]?)/\∃L,(Jj i acc lo hi l).1=acc++L/\L.length=cntP l/\
  ∀(k:Nat)(f:Pr),l[k]?=some f->(Jj i acc lo hi l).2.1[i+k]?=some ((acc.length+QR l k:Nat)+1:Int)/\(Jj i acc lo hi l).2.2[i+k]?=some ((acc.length+QR l k+QW f.body:Nat)+1:Int)/\
   QR l k+QW f.body<=cntP l/\(L.take (QR l k+QW f.body)).drop (QR l k)=itL (i+k:Nat) 0 (-1) 0 (acc.length+QR l k) f.body
 | [],i,acc,lo,hi,h1,h2=>by
   rw[Jj];exact⟨by simpa using h1,by simpa using h2,fun _ _=>⟨rfl,rfl⟩,[],by simp,rfl,fun k f h=>by simp at h⟩
 | f::r,i,acc,lo,hi,h1,h2=>by
   rw[Jj];have v:=Qg i 0 (-1) 0 f.body acc;have j:=XY i 0 (-1) 0 acc f.body;obtain⟨a,c,y,L,d,e,A⟩:=N5 r (i+1) (XF i 0 (-1) 0 acc f.body) (lo++[(acc.length:Int)+1]) (hi++[((XF i 0 (-1) 0 acc f.body).length:Int)+1]) (by simp[h1]) (by simp[h2]);refine⟨by rw[a,x1r];omega,by rw[c,x1r];omega,fun k B=>?_,itL i 0 (-1) 0 acc.length f.body++L,?_,?_,fun k g x=>?_⟩
   .obtain ⟨q,m⟩:=y k (by omega);rw[q,m,x2j (by omega),x2j (by omega)];exact⟨rfl,rfl⟩
   .rw [d,v,x1k]
   .rw [x0g,e,ZH,cntP]
   .cases k with
    | zero=>
      simp only[x6w,x4z]at x;subst x;obtain⟨q,m⟩:=y i (by omega);simp only[x5t,QR,x3v,drop_zero];refine⟨?_,?_,?_,?_⟩
      .rw [q,x2q (by omega),h1];simp
      .rw [m,x2q (by omega),h2,j];simp
      .rw [cntP];omega
      .rw [List.take_append_of_le_length (by rw[ZH];omega),x1w (by rw[ZH];omega)]
    | succ k=>
      simp only[List.getElem?_cons_succ]at x;obtain⟨q,m,z,p⟩:=A k g x;rw[j]at p;simp only[QR];refine⟨?_,?_,?_,?_⟩
      .rw [show i+(k+1)=i+1+k by omega,q,j];congr 2;omega
      .rw [show i+(k+1)=i+1+k by omega,m,j];congr 2;omega
      .rw [cntP];omega
      .rw [List.take_append,List.drop_append,ZH,x1w (by rw[ZH];omega),x1q (by rw[ZH];omega),x5k];simp only[ZH];rw[show QW f.body+QR r k+QW g.body-QW f.body=QR r k+QW g.body by omega,show QW f.body+QR r k-QW f.body=QR r k by omega,p];rw[show i+(k+1)=i+1+k by omega,show acc.length+(QW f.body+QR r k)=acc.length+QW f.body+QR r k by omega]
def QJ(p:Pg):(sheetOf p).p=p/\(sheetOf p).lo.length=p.A.length/\(sheetOf p).hi.length=p.A.length/\(sheetOf p).l.length=cntP p.A/\
  ∀(k:Nat)(f:Pr),p.A[k]?=some f->(sheetOf p).lo[k]?=some ((QR p.A k:Nat)+1:Int)/\(sheetOf p).hi[k]?=some ((QR p.A k+QW f.body:Nat)+1:Int)/\
   QR p.A k+QW f.body<=cntP p.A/\((sheetOf p).l.take (QR p.A k+QW f.body)).drop (QR p.A k)=itL k 0 (-1) 0 (QR p.A k) f.body:=by
 obtain⟨i,j,_,L,h,m,q⟩:=N5 p.A 0 [] [] [] rfl rfl;refine⟨rfl,by unfold sheetOf;simpa using i,by unfold sheetOf;simpa using j,by unfold sheetOf;simp[h,m],fun k f v=>?_⟩;have:=q k f v;unfold sheetOf;simp only[h,x5k,x4s,x3v]at this⊢;exact this
mutual
theorem T6(nest seen:Int):∀(s:S){m:Int},D7 nest seen s=some m->m=seen+ZD s
 | .mk id kind M name C x has args F L,m,h=>by
   simp only[D7]at h;split at h
   ·cases h
   split at h
   ·cases h
   cases hn:namesB M<;>rw[hn]at h
   ·cases h
   cases hf:WB (.mk id kind M name C x has args F L)<;>rw[hf]at h
   ·cases h
   simp only[x1u]at h;split at h
   ·rename_i m1 h1;have h2:=KW (nest+1) (seen+1) F h1;have h3:=KW (nest+1) m1 L h;rw[ZD];omega
   ·cases h
theorem KW(nest seen:Int):∀(l:List S){m:Int},YL nest seen l=some m->m=seen+QW l
 | [],m,h=>by
   simp only[YL]at h;cases h;rw[QW];simp
 | s::r,m,h=>by
   simp only[YL]at h;split at h
   ·cases h
   split at h
   ·rename_i m1 h1;have h2:=T6 nest seen s h1;have h3:=KW nest m1 r h;rw[QW];omega
   ·cases h
end
theorem Gz:∀(l:List Pr){seen m:Int},seen<=200->XR seen l=some m->m=seen+cntP l/\m<=200
 |[],seen,m,h0,h=>by rw[XR]at h;cases h;simp[cntP];exact h0
 | f::r,seen,m,h0,h=>by
   rw[XR]at h;cases j:KN f<;>rw[j]at h
   .cases h
   simp only[x1u]at h;split at h
   .rename_i v i;have k:=KW 1 seen f.body i;have p:=Ys 1 seen f.body h0 i;have q:=Gz r (by omega) h;rw[cntP];omega
   .cases h
def WO{p:Pg}(h:JJ p=true):p.D.length<=16/\p.A.length<=16/\cntP p.A<=200:=by
 unfold JJ at h;simp only[x1z,x1n]at h;obtain⟨⟨⟨k,l⟩,_⟩,i⟩:=h;cases j:XR 0 p.A with
 |none=>rw[j]at i;cases i
 | some m=>
   have:=Gz p.A (by decide) j;omega
def Lx{p:Pg}(h:JJ p=true){f:Pr}(i:f∈p.A):KN f=true:=by
 unfold JJ at h;simp only[x1z]at h;have k:=h.2;have key:∀(l:List Pr)(seen:Int),(XR seen l).isSome=true->∀f∈l,KN f=true:=fun l=>by
  induction l with
  |nil=>intro _ _ f i;cases i
  | cons g r m=>
    intro seen h f i;rw[XR]at h;cases j:KN g<;>rw[j]at h
    .cases h
    simp only[x1u]at h;split at h
    .rename_i v q;rcases x0p.1 i with rfl|i
     .exact j
     .exact m _ h f i
    .cases h
 exact key _ _ k f i
def DJ(p:Pg)(f:Pr)(name:Str):Int:=
 match f.B.find? (fun a=>a.name==name)with
 |some a=>bif a.ref then 3 else 2
 |none=>bif f.Q.any (fun s=>name==s)then 4 else bif p.D.any (fun s=>name==s)then 1 else 0
def Xg{l:List α}{p:α->Bool}{j:Nat}(i:j<l.length)(h:p l[j]=false):(l.drop (j+1)).find? p=(l.drop j).find? p:=by
 rw[QB i,x5y,h]
def BU{l:List α}{p:α->Bool}{j:Nat}(i:j<l.length)(h:p l[j]=true):(l.drop j).find? p=some l[j]:=by
 rw[QB i,x5y,h]
def BW{l:List α}{p:α->Bool}{j:Nat}(h:l.length<=j):(l.drop j).find? p=none:=by
 rw[x1q h];rfl
def Gr(p:Pg)(f:Pr)(name:Str):SpecP prog 68 [.agg p.cells,.agg f.cells,.str name] (fun r=>r=.int .i64 (DJ p f name)):=by
 refine sB Bv func68 rfl call68 ?_;conv=>whnf
 repeat' (refine iM fun _=>?_;conv=>whnf)
 have q:(f.B.map fun a=>AV.agg a.cells).length=f.B.length:=x0j _;refine LoopK.inv QK (fun j:Nat=>⟨[(2,.p (.str name)),(3,.p (.ip p.cells)),(4,.p (.ip f.cells)),(10,.p (.sl (f.B.map fun a=>.agg a.cells))),(11,.p (.int .i64 (f.B.map fun a=>AV.agg a.cells).length)),(12,.p (.int .i64 j))],[]⟩) (fun j=>j<=f.B.length/\(f.B.drop j).find? (fun a=>a.name==name)=f.B.find? (fun a=>a.name==name)) (fun j=>f.B.length-j) 0 (Le.of_eq rfl) ⟨x0l _,rfl⟩ ?_;rintro j ⟨l,h⟩;conv=>whnf
 repeat' (first|((first|refine cP (QV _ _) ?_|refine x0h rfl ?_|(refine iA fun _=>?_)|refine wI ?_);conv=>whnf)|(apply bD<;>intro _<;>first|omega|conv=>whnf)|(apply bB<;>intro _<;>conv=>whnf))
 all_goals try have m:j<f.B.length:=by omega
 all_goals first
  | (exfalso
     have k:((f.B[j]'(by omega)).name==name)=true:=by assumption
     have i:((f.B[j]'(by omega)).name==name)=false:=by assumption
     rw[k]at i;cases i)
  | (have e:=BU (p:=fun a:Param=>a.name==name) (by omega) (by assumption)
     rw[h]at e;exact RetK.int (by unfold DJ;rw[e];simp[*]))
  |(refine⟨j+1,⟨by omega,by rw[<-h,Xg (p:=fun a:Param=>a.name==name) (by omega) (by assumption)]⟩,by omega,Le.of_eq rfl⟩)
  | (have e:f.B.find? (fun a=>a.name==name)=none:=by rw[<-h,BW (by omega)]
     exact RetK.int (by unfold DJ;rw[e];simp[*]))
def mainS:Str:=[109,97,105,110]
def knownB(p:Pg)(f:Pr)(A:List Str)(t:S):Bool:=(ZP t).all (fun n=> !(DJ p f n==0))&&(decide (t.kind≠4)||(!(t.C==mainS)&&A.any fun s=>t.C==s))
def Lh(p:Pg)(f:Pr)(A:List Str)(t:S)(k:t.args.length<=20000):SpecP prog 151 [.agg p.cells,.agg f.cells,eStrs A,.agg t.cells] (fun r=>r=.bool (knownB p f A t)):=by
 refine sB Hk func151 rfl call151 ?_;conv=>whnf
 repeat' ((first|(refine iM fun _=>?_)|refine cP (Kg _ k) ?_);conv=>whnf)
 have q:((ZP t).map AV.str).length=(ZP t).length:=x0j _;refine LoopK.inv QK (fun j:Nat=>⟨[(2,.p (eStrs A)),(4,.p (.ip p.cells)),(5,.p (.ip f.cells)),(7,.p (.ip t.cells)),(12,.p (eStrs (ZP t))),(13,.p (.int .i64 ((ZP t).map AV.str).length)),(14,.p (.int .i64 j))],[]⟩) (fun j=>j<=(ZP t).length/\((ZP t).drop j).all (fun n=> !(DJ p f n==0))=(ZP t).all (fun n=> !(DJ p f n==0))) (fun j=>(ZP t).length-j) 0 (Le.of_eq rfl) ⟨x0l _,rfl⟩ ?_;rintro j ⟨m,h⟩;conv=>whnf
 repeat' (first|((first|refine cP (Gr _ _ _) ?_|refine cP (QV _ _) ?_|(refine iA fun _=>?_)|refine wI ?_);conv=>whnf)|(apply bD<;>intro _<;>first|omega|conv=>whnf)|(apply bE<;>intro _<;>first|omega|conv=>whnf)|(apply bN<;>intro _<;>conv=>whnf))
 .exact RetK.ff (by
   have e:=Za (p:=fun n=> !(DJ p f n==0)) (l:=ZP t) (j:=j) (by omega) (by simp;assumption);rw[knownB,<-h,e,Bool.false_and])
 .exact ⟨j+1,⟨by omega,by rw[<-h,GT (p:=fun n=> !(DJ p f n==0)) (by omega) (by simp;assumption)]⟩,by omega,Le.of_eq rfl⟩
 all_goals
  have e:(ZP t).all (fun n=> !(DJ p f n==0))=true:=by rw[<-h,GR (by omega)]
 .exact RetK.ff (by
   have i:(t.C==mainS)=true:=by assumption
   rw[knownB,e,i];simp[*])
 .exact RetK.bool (by
   have i:(t.C==mainS)=false:=by assumption
   rw[knownB,e,i];simp[*])
 .exact RetK.tt (by rw[knownB,e];simp[*])
end Go.Ab
