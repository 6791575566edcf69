/- tree, flat, scope: the names of an expression, of a statement; what a name is. -/
import Derived.Test.YtonbdgcjnecapaaGreatRchR6
import Derived.Test.YtonbdgcjnecapaaGreatRchR8
set_option linter.all false
set_option maxRecDepth 100000
set_option maxHeartbeats 16000000
open Int (ofNat)
open Nat (mod_lt)
namespace Go.Ab
open Go.Proofs.Tryz
open Go.Proofs
variable {α:Type}{K:LV->Prop}{P:Program}{hr:Bool}{o:Oper}{s:St}{t u:TypeId}
def KS{es:List AV}{n:Nat}{K:Prop}(xs:List Str)(h:n=es.length)(k:es.length+xs.length<=8796093022208)(i:K):AppK es (xs.map .str) n (xs.map AV.str).length 1 16 K:=
 .mk h rfl (by rw[h];simp;omega) (by rw[h];simp[maxLen];omega) (fun x j=>by obtain⟨y,_,rfl⟩:=x7d.1 j;exact⟨rfl,rfl⟩) i
def QO{es:List AV}{n:Nat}{K:Prop}{s:Str}(i:n=es.length)(k:es.length<=8796093022000)(h:K):AppK es [.str s] n 1 1 16 K:=
 .mk i rfl (by omega) (by simp only[maxLen];omega) (fun x j=>by rcases x7y.1 j with rfl;exact⟨rfl,rfl⟩) h
def XX{es:List AV}{n:Nat}{K:Prop}{s:Int}(i:n=es.length)(k:es.length<=8796093022000)(h:K):AppK es [.int .i64 s] n 1 1 8 K:=
 .mk i rfl (by omega) (by simp only[maxLen];omega) (fun x j=>by rcases x7y.1 j with rfl;exact⟨rfl,rfl⟩) h
mutual
def N4:X->List Str->List Str
 |.mk op _ name kids,out=>FI kids (if op=2/\(out.any fun s=>name==s)=false then out++[name]else out)
def FI:List X->List Str->List Str
 |[],out=>out
 |x::r,out=>FI r (N4 x out)
end
def R6(x:X)(out:List Str):N4 x out=FI x.kids (if x.op=2/\(out.any fun s=>x.name==s)=false then out++[x.name]else out):=by
 cases x;rw[N4];rfl
def SY{l:List X}{j:Nat}{out:List Str}(h:j<l.length):FI (l.drop j) out=FI (l.drop (j+1)) (N4 l[j] out):=by
 rw[QG h,FI]
def AK{l:List X}{j:Nat}{out:List Str}(h:l.length<=j):FI (l.drop j) out=out:=by
 rw[x7e h,FI]
def Xx{n:Nat}{x:X}(h:WY (n+1) x=true):x.kids.length<=2/\(x.op=2->x.kids.length=0)/\∀k∈x.kids,WY n k=true:=by
 rw[WY]at h;simp only[x7i,x8l]at h;obtain⟨i,j⟩:=h;refine⟨?_,fun p=>?_,?_⟩
 .unfold Wn at i;(repeat' split at i)<;>omega
 .unfold Wn at i;rw[if_pos (by omega)]at i;omega
 .by_cases l:x.op=1
  .have:x.kids.length=0:=by unfold Wn at i;rw[if_pos (by omega)]at i;omega
   rw[x9y this];simp
  .by_cases m:x.op=2
   .have:x.kids.length=0:=by unfold Wn at i;rw[if_pos (by omega)]at i;omega
    rw[x9y this];simp
   .rw [if_neg l,if_neg m]at j;simp only[x7i]at j;exact x8a.1 j.2
def AH:∀(n:Nat)(x:X)(out:List Str),WY n x=true->out.length<=(N4 x out).length/\(N4 x out).length<=out.length+2^n:=by
 intro n;induction n with
 |zero=>intro x out h;rw[WY]at h;cases h
 | succ n d=>
   intro x out h;obtain⟨y,z,a⟩:=Xx h;have key:∀(l:List X)(o:List Str),(∀k∈l,WY n k=true)->o.length<=(FI l o).length/\(FI l o).length<=o.length+l.length*2^n:=by
    intro l;induction l with
    |nil=>intro o _;simp[FI]
    | cons k r p=>
      intro o q;rw[FI];have c:=d k o (q k (by simp));have e:=p (N4 k o) fun k m=>q k (by simp[m]);simp only[x8j,x9a,z4y];omega
   rw[R6];have f:2^(n+1)=2*2^n:=by rw[Nat.pow_succ];omega
   have v:0<2^n:=Nat.pow_pos (by decide);have j:=key x.kids (if x.op=2/\(out.any fun s=>x.name==s)=false then out++[x.name]else out) a;have c:x.kids.length*2^n<=2*2^n:=x9x _ y;split at j
   .rename_i i;have:=z i.1;rw[this]at j;rw[if_pos i];simp only[x7u,x8k]at j;omega
   .rename_i i;rw[if_neg i];omega
def CW(t:Nat)(out:List Str):Heap:=[(2000,.own t 1 (out.map .str))]
def Jh:∀(n:Nat)(_:n<=20)(x:X)(_:WY n x=true)(out:List Str)(_:out.length+2^n<=1073741824),
  SpecH prog 223 [.p (.agg x.cells),.hd 2000 0 out.length] (CW 9 out) (fun r H=>r=.hd 2000 0 (N4 x out).length/\H=CW 9 (N4 x out)):=by
 intro n;induction n with
 |zero=>intro _ x h;rw[WY]at h;cases h
 | succ n A=>
   intro D x c out E;have F:2^(n+1)=2*2^n:=by rw[Nat.pow_succ];omega
   have d:0<2^n:=Nat.pow_pos (by decide);obtain⟨y,z,m⟩:=Xx c;have g:=X.avs_len x.kids;refine sH F3 func223 rfl call223 ?_;conv=>whnf
   repeat' (first|((first|(refine iM fun _=>?_)|refine x7g rfl ?_|refine aD ?_|refine bP ?_|(refine XH (QX out x.name) (.cons (.hd rfl (by simp)) (.cons (.p (Sub.refl _)) .nil)) (by rintro _ rfl;rfl) ?_;rintro _ rfl)|refine z0w (by simp) rfl (by show(out.length+1)*16<=140737488355328;omega) (by show out.length+1<=9223372036854775807;omega) (fun x c=>by rcases x7y.1 c with rfl;exact⟨rfl,rfl⟩) ?_);conv=>whnf)|(apply bD<;>intro _<;>first|omega|conv=>whnf)|(apply bN<;>intro _<;>conv=>whnf))
   all_goals
    have q:∀j,j<x.kids.length->(x.kids.length-j)*2^n=(x.kids.length-(j+1))*2^n+2^n:=fun j l=>by
     rw[show x.kids.length-j=(x.kids.length-(j+1))+1 by omega,x9a,z4y]
    have a:x.kids.length*2^n<=2*2^n:=x9x _ y;first
    |refine LoopK.inv QV (fun i:Nat×List Str=>⟨[(1,.hd 2000 0 i.2.length),(23,.p (.sl (X.avs x.kids))),(24,.p (.int .i64 (X.avs x.kids).length)),(25,.j i.1)],CW 9 i.2⟩) (fun i=>i.1<=x.kids.length/\FI (x.kids.drop i.1) i.2=N4 x out/\i.2.length+(x.kids.length-i.1)*2^n<=1073741824) (fun i=>x.kids.length-i.1) (0,out++[x.name]) (Le.of_eq (by simp[CW];exact⟨rfl,rfl⟩)) ⟨x7p _,by simp only[z4z];rw[R6,if_pos ⟨by assumption,by assumption⟩],by have:=z (by assumption);simp[this];omega⟩ ?_
    |refine LoopK.inv QV (fun i:Nat×List Str=>⟨[(1,.hd 2000 0 i.2.length),(23,.p (.sl (X.avs x.kids))),(24,.p (.int .i64 (X.avs x.kids).length)),(25,.j i.1)],CW 9 i.2⟩) (fun i=>i.1<=x.kids.length/\FI (x.kids.drop i.1) i.2=N4 x out/\i.2.length+(x.kids.length-i.1)*2^n<=1073741824) (fun i=>x.kids.length-i.1) (0,out) (Le.of_eq rfl) ⟨x7p _,by simp only[z4z];rw[R6,if_neg (by simp[*])],by simp only[Nat.sub_zero];omega⟩ ?_
    rintro⟨j,k⟩ ⟨e,v,f⟩;simp only at e v f⊢;conv=>whnf
    repeat' (first|((first|refine x7g rfl ?_|refine IdxK.xs (by omega) ?_);conv=>whnf)|(apply bD<;>intro _<;>first|omega|conv=>whnf))
    all_goals first
     | (rw[AK (by omega)]at v
        exact⟨_,.refl _,by rw[v];exact⟨rfl,rfl⟩⟩)
     | (have l:j<x.kids.length:=by omega
        have C:=q j l;have B:=AH n x.kids[j] k (m _ (x7l l));refine cJ [(2000,2000)] 0 (A (by omega) x.kids[j] (m _ (x7l l)) k (by omega)) ?_;rintro l' H' ⟨rfl,rfl⟩;conv=>whnf
        refine wI ?_;conv=>whnf
        exact⟨(j+1,N4 x.kids[j] k),⟨by simp only;omega,by simp only;rw[<-v,SY l],by simp only;omega⟩,by simp only;omega,Le.of_eq rfl⟩)
def XP(x:X):List Str:=bif CX x then N4 x []else []
def VK(x:X):(XP x).length<=1048576:=by
 unfold XP;cases h:CX x with
 |false=>simp
 | true=>
   have:=(AH 20 x [] h).2;simpa using this
def Zq(x:X):SpecP prog 167 [.agg x.cells] (fun r=>r=eStrs (XP x)):=by
 refine sB Zh func167 rfl call167 ?_;conv=>whnf
 repeat' (first|(refine cP (KF _) ?_;conv=>whnf)|(apply bN<;>intro _<;>conv=>whnf))
 .refine CallK.nil 5 9 1 rfl (.cons rfl (.row .nil)) ?_;refine cJ [(2000,5)] 0 (Jh 20 (by omega) x (by assumption) [] (by simp)) ?_;rintro l' H' ⟨rfl,rfl⟩;conv=>whnf
  refine⟨_,.hd rfl (by simp),?_⟩;unfold XP;rw[show CX x=true by assumption];rfl
 .refine ⟨_,.p Sub.nils,?_⟩;unfold XP;rw[show CX x=false by assumption];rfl
def JP(a:Arg):List Str:=(bif a.ref then [a.name]else [])++XP a.x
def KU(t:S):List Str:=(bif t.kind≠10 && !(t.name==[])then [t.name]else [])++XP t.x
def XF(t:S):List Str:=KU t++t.args.flatMap JP
def C1(a:Arg):(JP a).length<=1048577:=by
 have:=VK a.x;unfold JP;cases a.ref<;>simp<;>omega
def C2(t:S):(KU t).length<=1048577:=by
 have:=VK t.x;unfold KU;cases(t.kind≠10 && !(t.name==[]):Bool)<;>simp<;>omega
theorem HZ{α β:Type}{f:α->List β}{c:Nat}(h:∀a,(f a).length<=c):∀l:List α,(l.flatMap f).length<=l.length*c
 |[]=>by simp
 | x::r=>by
   have:=HZ h r;have:=h x;simp only[x9v,x7u,x8j,x9a,z4y];omega
def Sl(t:S)(j:Nat):List Str:=KU t++(t.args.take j).flatMap JP
def O1(t:S){j:Nat}(h:j<=t.args.length)(ha:t.args.length<=21000):(Sl t j).length<=23000000000:=by
 have i:=C2 t;have k:=HZ C1 (t.args.take j);have l:(t.args.take j).length*1048577<=21000*1048577:=x9x _ (by simp;omega);unfold Sl;simp only[x7u];omega
def CT{t:S}{j:Nat}(h:j<t.args.length):Sl t (j+1)=Sl t j++JP t.args[j]:=by
 unfold Sl;rw[x7r h,z1b,x8w];simp
def Gm(t:S)(h:Nat)(j:Nat):St:=⟨[(3,.hd 0 0 (Sl t j).length),(25,.p (.sl (t.args.map fun a=>.agg a.cells))),(26,.p (.int .i64 (t.args.map fun a=>AV.agg a.cells).length)),(27,.j j)],[(0,.own h 1 ((Sl t j).map .str))]⟩
def G3(t:S)(ha:t.args.length<=21000):SpecP prog 211 [.agg t.cells] (fun r=>r=eStrs (XF t)):=by
 refine sB Bj func211 rfl call211 ?_;conv=>whnf
 repeat' (first|((first|(refine iM fun _=>?_)|refine cP (Zq _) ?_|refine x7g rfl ?_|refine aD ?_|refine bP ?_|refine KS _ (by simp) (by have:=VK t.x;simp;omega) ?_|refine QO (by simp) (by simp) ?_);conv=>whnf)|(apply bE<;>intro _<;>first|omega|conv=>whnf)|(apply bN<;>intro _<;>conv=>whnf))
 all_goals
  have p:(t.args.map fun a=>AV.agg a.cells).length=t.args.length:=x7z _;refine LoopK.inv QV (Gm t 9) (fun j=>j<=t.args.length) (fun j=>t.args.length-j) 0 (Le.of_eq ?_) (x7p _) ?_
  .first
    | (have e:Sl t 0=XP t.x:=by simp[Sl,KU,show t.kind=10 by assumption]
       rw[Gm,e];simp only[z0q,x7z,x7u,x7n,z0i];rfl)
    | (have e:Sl t 0=XP t.x:=by simp[Sl,KU,show t.name=[] by simpa using(show(t.name==[])=true by assumption)]
       rw[Gm,e];simp only[z0q,x7z,x7u,x7n,z0i];rfl)
    | (have e:Sl t 0=[t.name]++XP t.x:=by
        have:(t.name==[])=false:=by assumption
        simp[Sl,KU,show ¬t.kind=10 by assumption,this]
       rw[Gm,e];simp only[z0q,x7z,x7u,x7n,z0i];rfl)
  intro j l;have k:=O1 t l ha;conv=>whnf
  repeat' (first|((first|refine cP (Zq _) ?_|refine x7g rfl ?_|refine aD ?_|refine bP ?_|(refine iA fun _=>?_)|refine wI ?_|refine KS _ (by simp) (by have:=VK (t.args[j]'(by omega)).x;simp;omega) ?_|refine QO (by simp) (by simp;omega) ?_);conv=>whnf)|(apply bD<;>intro _<;>first|omega|conv=>whnf)|(apply bB<;>intro _<;>conv=>whnf))
  all_goals first
   |exact⟨_,.hd rfl (by simp),by
      have:t.args.take j=t.args:=x7a (by omega);rw[XF,<-this];rfl⟩
   | (have m:j<t.args.length:=by omega
      have h:=CT m;refine⟨j+1,by show j+1<=_;omega,by show t.args.length-(j+1)<t.args.length-j;omega,Le.of_eq ?_⟩;first
       | (have i:JP t.args[j]=[t.args[j].name]++XP t.args[j].x:=by rw[JP,show t.args[j].ref=true by assumption];rfl
          rw[Gm,h,i];simp only[x7u,x7n,x7z,<-x8w,<-z0l];rfl)
       | (have i:JP t.args[j]=XP t.args[j].x:=by rw[JP,show t.args[j].ref=false by assumption];rfl
          rw[Gm,h,i];simp only[x7u,x7n,x7z];rfl))
abbrev Wd:=BitVec 64
def eW(w:Wd):AV:=.int .u64 (w.toNat:Int)
def B7(w:Wd):IntKind.u64.wrap (w.toNat:Int)=w.toNat:=by
 have h:=w.isLt;unfold IntKind.wrap;simp[IntKind.bits,IntKind.signed];omega
def BV{σ:Mem}{β:Lab}{s:St}{a:Act}(j:∀i,RepL σ β (getS s.sl i) (a.tmps.getD i undef)){x:Operand}{k:IntKind}{n:Int}(l:QN s.sl x=.p (.int k n)):a.eval x=.int k n:=by
 have h:=QQ j x;rw[l]at h;generalize a.eval x=v at h;cases h with
 |p h=>cases h;rfl
def UH{op:BinOp}{x y:Operand}(j:o.op=.binOp op t x y u)(a b c:Wd){m n:Int}(g:QN s.sl x=.p (.int .u64 m))(A:QN s.sl y=.p (.int .u64 n))(e:m=a.toNat)(f:n=b.toNat)(z:(op=.and/\c=a &&& b)\/(op=.or/\c=a |||b)\/(op=.andNot/\c=a &&& ~~~b))(v:K (.p (eW c))):ValO P hr s o K:=by
 refine⟨fun σ β B w k _=>⟨_,.int .u64 c.toNat,v,.p (.int _ _),fun w' _ _=>?_⟩⟩;have l:=BV k g;have q:=BV k A;have d:(eqGuard op t x y (.int .u64 m) (.int .u64 n)).run P w'=.ok () w':=by
  unfold eqGuard;cases op<;>rfl
 have ha:BitVec.ofInt 64 m=a:=by rw[e];simp
 have i:BitVec.ofInt 64 n=b:=by rw[f];simp
 have h:(binOp op t (.int .u64 m) (.int .u64 n)).run P w'=.ok (.int .u64 c.toNat) w':=by
  rcases z with⟨rfl,rfl⟩|⟨rfl,rfl⟩|⟨rfl,rfl⟩
  .show (Op.intBits .and .u64 m n).run P w'=_;show(pure (.int .u64 (IntKind.u64.wrap ((BitVec.ofInt 64 m &&& BitVec.ofInt 64 n).toNat:Int))):Sem Value).run P w'=_;rw[ha,i,B7];rfl
  .show (pure (.int .u64 (IntKind.u64.wrap ((BitVec.ofInt 64 m |||BitVec.ofInt 64 n).toNat:Int))):Sem Value).run P w'=_;rw[ha,i,B7];rfl
  .show (pure (.int .u64 (IntKind.u64.wrap ((BitVec.ofInt 64 m &&& ~~~ BitVec.ofInt 64 n).toNat:Int))):Sem Value).run P w'=_;rw[ha,i,B7];rfl
 simp only[execOp,j,l,q,Sem.run_bind,d,h,Result.andThen_ok,Sem.run_pure]
theorem ValO.shr{P:Program}{hr:Bool}{s:St}{o:Oper}{K:LV->Prop}{t u:TypeId}{x y:Operand}(j:o.op=.binOp .shr t x y u)(a:Wd)(n:Nat){m k:Int}(A:QN s.sl x=.p (.int .u64 m))(B:QN s.sl y=.p (.int .i64 k))(g:m=a.toNat)(f:k=n)(D:n<64)(z:K (.p (eW (a >>> n)))):ValO P hr s o K:=by
 refine⟨fun σ β C w l _=>⟨_,.int .u64 (a >>> n).toNat,z,.p (.int _ _),fun w' _ _=>?_⟩⟩;have q:=BV l A;have v:=BV l B;have c:(eqGuard .shr t x y (.int .u64 m) (.int .i64 k)).run P w'=.ok () w':=by
  unfold eqGuard;rfl
 have i:(binOp .shr t (.int .u64 m) (.int .i64 k)).run P w'=.ok (.int .u64 (a >>> n).toNat) w':=by
  show(Op.shift .shr .u64 m .i64 k).run P w'=_;unfold Op.shift;rw[if_neg (by omega),g,f];have e:min (n:Int).toNat (IntKind.bits .u64)=n:=by
   show min (n:Int).toNat 64=n;omega
  simp only[e];have e2:(a.toNat:Int).fdiv (2^n)=((a >>> n).toNat:Int):=by
   rw[BitVec.toNat_ushiftRight,Nat.shiftRight_eq_div_pow,Int.fdiv_eq_ediv_of_nonneg _ (by exact_mod_cast x7p _)]
   push_cast
   rfl
  rw[e2];rfl
 simp only[execOp,j,q,v,Sem.run_bind,c,i,Result.andThen_ok,Sem.run_pure]
def CM{x y:Operand}(i:o.op=.binOp .shl t x y u)(n:Nat){k:Int}(d:QN s.sl x=.p (.int .u64 1))(f:QN s.sl y=.p (.int .i64 k))(a:k=n)(c:n<64)(v:K (.p (eW (1#64 <<< n)))):ValO P hr s o K:=by
 refine⟨fun σ β g w j _=>⟨_,.int .u64 (1#64 <<< n).toNat,v,.p (.int _ _),fun w' _ _=>?_⟩⟩;have m:=BV j d;have q:=BV j f;have z:(eqGuard .shl t x y (.int .u64 1) (.int .i64 k)).run P w'=.ok () w':=by
  unfold eqGuard;rfl
 have h:(binOp .shl t (.int .u64 1) (.int .i64 k)).run P w'=.ok (.int .u64 (1#64 <<< n).toNat) w':=by
  show(Op.shift .shl .u64 1 .i64 k).run P w'=_;unfold Op.shift;rw[if_neg (by omega),a];have e:min (n:Int).toNat (IntKind.bits .u64)=n:=by
   show min (n:Int).toNat 64=n;omega
  simp only[e];have l:(1#64 <<< n).toNat=2^n:=by
   rw[BitVec.toNat_shiftLeft];simp only[BitVec.toNat_ofNat];rw[Nat.shiftLeft_eq,Nat.one_mod_two_pow_eq_one.2 (by decide),z4y,Nat.mod_eq_of_lt (Nat.pow_lt_pow_right (by decide) c)]
  have e2:IntKind.u64.wrap ((1:Int)*2^n)=((1#64 <<< n).toNat:Int):=by
   rw[<-B7,l];congr 1
   push_cast
   omega
  rw[e2];rfl
 simp only[execOp,i,m,q,Sem.run_bind,z,h,Result.andThen_ok,Sem.run_pure]
def Co{ws:List Wd}{i:Nat}(h:i<ws.length):(ws.map eW)[i]?=some (.int .u64 (ws[i].toNat:Int)):=by
 rw[x7k,x7x h];rfl
def EK(ws:List Wd)(f:Nat):List Wd:=ws.set (f/64) (ws.getD (f/64) 0 |||1#64 <<< (f%64))
def wsH(k:Nat)(ws:List Wd):Nat×Chunk:=(k,.own 282 1 (ws.map eW))
def Od(f:Nat):(f:Int).tdiv 64=((f/64:Nat):Int):=rfl
def x0w(f:Nat):(f:Int).tmod 64=((f%64:Nat):Int):=rfl
def Kq(ws:List Wd)(f:Nat)(i:f/64<ws.length)(m:ws.length<=1000000):SpecH prog 288 [.hd 1000 0 ws.length,.j f] [wsH 1000 ws] (fun r H=>(∃b,r=.p (.bool b))/\H=[wsH 1000 (EK ws f)]):=by
 refine sH Wv func288 rfl call288 ?_;conv=>whnf
 have e:=Co i;have h:=Od f;have l:=x0w f;have k:(ws.map eW).set (f/64) (eW (ws[f/64] |||1#64 <<< (f%64)))=(EK ws f).map eW:=by
  unfold EK;rw[x8o,x7w,x7x i];rfl
 repeat' ((first|refine dA ?_|refine x7g rfl ?_|refine x7g (by decide) ?_|refine Wr.i64 (by rw[h];omega) (by rw[h];omega) ?_|refine x8p (f/64) h i ?_|refine x9g (f/64) 0 (.int .u64 (ws[f/64].toNat:Int)) (by omega) e ?_|refine ValO.shr rfl ws[f/64] (f%64) rfl rfl rfl l (by omega) ?_|refine UH rfl _ 1#64 _ rfl rfl rfl rfl (.inl ⟨rfl,rfl⟩) ?_|refine CM rfl (f%64) rfl rfl l (by omega) ?_|refine UH rfl _ _ _ rfl rfl rfl rfl (.inr (.inl ⟨rfl,rfl⟩)) ?_|refine z0d (f/64) 0 (.int .u64 (ws[f/64].toNat:Int)) (eW (ws[f/64] |||1#64 <<< (f%64))) (by omega) e (x7s 1) rfl ?_);conv=>whnf)
 all_goals first
  |exact⟨_,.refl _,⟨_,rfl⟩,by unfold wsH;rw[<-k]⟩
def ZL(b c:List Wd):List Wd:=List.zipWith (fun x y=>x |||y) b c
def Q0(b c:List Wd)(k:Nat):Bool:=(List.range k).any fun i=> !(((c.getD i 0 &&& ~~~(b.getD i 0)).toNat:Int)==0)
def C0(b c:List Wd)(k:Nat):Q0 b c (k+1)=(Q0 b c k || !(((c.getD k 0 &&& ~~~(b.getD k 0)).toNat:Int)==0)):=by
 unfold Q0;rw[z1c,List.any_append];simp
def Cp(b c:List Wd)(d:c.length=b.length)(g:b.length<=1000000):SpecH prog 291 [.hd 1000 0 b.length,.hd 1001 0 c.length] [wsH 1000 b,wsH 1001 c] (fun r H=>r=.p (.bool (Q0 b c b.length))/\H=[wsH 1000 (ZL b c),wsH 1001 c]):=by
 refine sH Bt func291 rfl call291 ?_;conv=>whnf
 repeat' (refine iM fun _=>?_;conv=>whnf)
 have e:(ZL b c).length=b.length:=by unfold ZL;rw[z4x];omega
 refine LoopK.inv QV (fun i:Nat=>⟨[(0,.hd 1000 0 b.length),(1,.hd 1001 0 c.length),(4,.p (.bool (Q0 b c i))),(7,.j b.length),(8,.j i)],[wsH 1000 ((ZL b c).take i++b.drop i),wsH 1001 c]⟩) (fun i=>i<=b.length) (fun i=>b.length-i) 0
  (Le.mk [] (by simp) (by simp) (by show(List.map _ _).Nodup;simp[wsH]) (.r (.r (.cons (.p (Sub.ff rfl)) (.r (.r .nil))))) (.cons rfl (.refl _) (.cons rfl (.refl _) .nil))) (x7p _) ?_
 intro i f;rcases x7m i b.length with k|k
 .have h:i<c.length:=by omega
  have x:((ZL b c).take i++b.drop i).length=b.length:=by rw[x7u,x8q,x9i];omega
  have a:((ZL b c).take i++b.drop i)[i]?=some b[i]:=by
   rw[x8f (by rw[x8q];omega),x8q,x9f,show i+(i-min i (ZL b c).length)=i by omega,x7x k]
  have q:((ZL b c).take i++b.drop i).set i (b[i] |||c[i]'h)=(ZL b c).take (i+1)++b.drop (i+1):=by
   rw[z1x _ _ (by rw[x8q];omega),x8q,show i-min i (ZL b c).length=0 by omega,x8b k,z1g,x7r (by omega),x8w];congr 1;show _=(ZL b c)[i]::_;unfold ZL;rw[List.getElem_zipWith];rfl
  have m:=C0 b c i;rw[x7w,x7w,x7x k,x7x (show i<c.length by omega)]at m;simp only[x9u]at m;generalize((ZL b c).take i++b.drop i)=row at x a q⊢;have y:(row.map eW)[i]?=some (.int .u64 (b[i].toNat:Int)):=by rw[x7k,a];rfl
  have e2:=Co (ws:=c) (i:=i) (by omega);have z:(row.map eW).set i (eW (b[i] |||c[i]'h))=((ZL b c).take (i+1)++b.drop (i+1)).map eW:=by rw[<-q,x8o]
  cases v:Q0 b c i;all_goals
   rw[v]at m;unfold wsH;conv=>whnf
   repeat' (first|((first|refine x7g rfl ?_|refine wI ?_|refine dA ?_|refine x8p i rfl (by omega) ?_|refine x9g i 0 (.int .u64 (b[i].toNat:Int)) (by omega) y ?_|refine x9g i 0 (.int .u64 ((c[i]'h).toNat:Int)) (by omega) e2 ?_|refine UH rfl (c[i]'h) b[i] _ rfl rfl rfl rfl (.inr (.inr ⟨rfl,rfl⟩)) ?_|refine UH rfl b[i] (c[i]'h) _ rfl rfl rfl rfl (.inr (.inl ⟨rfl,rfl⟩)) ?_|refine z0d i 0 (.int .u64 (b[i].toNat:Int)) (eW (b[i] |||c[i]'h)) (by omega) y (x7s 1) rfl ?_|refine Br.tt ?_|refine Br.ff ?_);conv=>whnf)|(apply bD<;>intro _<;>first|omega|conv=>whnf))
   all_goals first
    |exact⟨i+1,k,by omega,Le.of_eq (by rw[m,<-z];rfl)⟩
    |exact⟨i+1,k,by omega,by
       rw[m,<-z];exact Le.mk [] (by simp) (by simp) (by show(List.map _ _).Nodup;simp[wsH]) (.r (.r (.cons (.p (Sub.tt rfl)) (.r (.r .nil))))) (.cons rfl (.refl _) (.cons rfl (.refl _) .nil))⟩
 .have l:(ZL b c).take i++b.drop i=ZL b c:=by rw[x7a (by omega),x7e k,x9q]
  obtain rfl:i=b.length:=by omega
  rw[l];unfold wsH;conv=>whnf
  repeat' (apply bD<;>intro _<;>first|omega|conv=>whnf)
  all_goals first
   |exact⟨_,.refl _,rfl,rfl⟩
def bitW(ws:List Wd)(f:Nat):Bool:=(ws.getD (f/64) 0).getLsbD (f%64)
def YW(ws:List Wd)(h:Nat):List Int:=((List.range h).filter (bitW ws)).map ofNat
def q7z(w:Wd)(k:Nat):((w >>> k &&& 1#64).toNat:Int)=if w.getLsbD k then 1 else 0:=by
 have h:(w >>> k &&& 1#64).toNat=(w.toNat >>> k)%2:=by
  rw[BitVec.toNat_and,BitVec.toNat_ushiftRight];show(w.toNat >>> k) &&& 1=_;exact Nat.and_one_is_mod _
 rw[h,BitVec.getLsbD,Nat.testBit,Nat.and_comm,Nat.and_one_is_mod];have:=Nat.mod_two_eq_zero_or_one (w.toNat >>> k);rcases this with h|h<;>rw[h]<;>rfl
def SC(ws:List Wd)(k:Nat):YW ws (k+1)=YW ws k++(if bitW ws k then [(k:Int)]else []):=by
 unfold YW;rw[z1c,z0u,x7n];congr 1;cases h:bitW ws k
 .rw [z0j (by rw[h];decide)];rfl
 .rw [z0x h];rfl
def Ew(ws:List Wd)(k:Nat):(YW ws k).length<=k:=by
 unfold YW;rw[x7z];exact x8m (x9n _ _) (by simp)
def Ju(ws:List Wd)(h:Nat)(B:h<=1000000)(d:h/64<ws.length):SpecP prog 292 [.sl (ws.map eW),.int .i64 h] (fun r=>r=QB (YW ws h)):=by
 refine sB X3 func292 rfl call292 ?_;conv=>whnf
 skip
 have g:(ws.map eW).length=ws.length:=x7z _;refine LoopK.inv QV (fun f:Nat=>⟨[(0,.p (.sl (ws.map eW))),(1,.j h),(5,.hd 0 0 (YW ws f).length),(6,.j f)],[(0,.own 3 1 ((YW ws f).map (.int .i64)))]⟩) (fun f=>f<=h) (fun f=>h-f) 0
  (Le.mk [(0,.own 3 1 [])] (by simp[Chunk.new0];rfl) (by simp) (by simp) (.r (.r (.cons (.nil x7v) (.r .nil)))) (.new x7v .nil)) (x7p _) ?_
 intro f A;have c:=Ew ws f;have i:=SC ws f;rcases x7m f h with v|v
 .have m:f/64<ws.length:=Nat.lt_of_le_of_lt (Nat.div_le_div_right (by omega)) d;have e:=Co m;have q:=Od f;have a:=x0w f;have y:bitW ws f=(ws[f/64]).getLsbD (f%64):=by unfold bitW;rw[x7w,x7x m];rfl
  have l:=q7z ws[f/64] (f%64);rw[<-y]at l;generalize YW ws f=acc at*
  conv=>whnf
  repeat' (first|((first|refine x7g rfl ?_|refine aD ?_|refine bP ?_|refine x7g (by decide) ?_|refine Wr.i64 (by first|omega|(rw[q];omega)) (by first|omega|(rw[q];omega)) ?_|(refine IdxK.at (k:=f/64) q e rfl ?_)|refine ValO.shr rfl ws[f/64] (f%64) rfl rfl rfl a (by omega) ?_|refine UH rfl _ 1#64 _ rfl rfl rfl rfl (.inl ⟨rfl,rfl⟩) ?_|refine XX (by simp) (by simp;omega) ?_);conv=>whnf)|(apply bD<;>intro _<;>first|omega|conv=>whnf))
  all_goals first
   | (have x:bitW ws f=true:=by
       cases z:bitW ws f with
       |true=>rfl
       |false=>rw[z]at l;exfalso;simp_all;done
      rw[x]at i;exact⟨f+1,v,by omega,Le.of_eq (by rw[i];simp only[x7u,x7n,if_true];rfl)⟩)
   | (have x:bitW ws f=false:=by
       cases z:bitW ws f with
       |false=>rfl
       |true=>rw[z]at l;exfalso;simp_all;done
      rw[x]at i;exact⟨f+1,v,by omega,Le.of_eq (by rw[i];simp only[x9q,Bool.false_eq_true,if_false];rfl)⟩)
 .obtain rfl:f=h:=by omega
  conv=>whnf
  repeat' (apply bD<;>intro _<;>first|omega|conv=>whnf)
  all_goals first
   |exact⟨_,.hd rfl (by simp),rfl⟩
def TH(ws:List Wd)(f:Nat):(EK ws f).length=ws.length:=by unfold EK;rw[x9d]
def Yy{b c:List Wd}(h:c.length=b.length):(ZL b c).length=b.length:=by unfold ZL;rw[z4x];omega
def GV{b c:List Wd}(h:c.length=b.length){f:Nat}(i:f/64<b.length):bitW (ZL b c) f=(bitW b f||bitW c f):=by
 unfold bitW ZL;rw[x7w,x7w,x7w,List.getElem?_zipWith,x7x i,x7x (show f/64<c.length by omega)];simp only[x9u];rw[BitVec.getLsbD_or]
def Ov{ws:List Wd}{f g:Nat}(l:f/64<ws.length):bitW (EK ws f) g=(bitW ws g||decide (g=f)):=by
 unfold bitW EK;by_cases h:g/64=f/64
 .rw [h,x7w,x9j l];simp only[x9u];rw[BitVec.getLsbD_or];congr 1;rw[BitVec.getLsbD_shiftLeft];have p:g%64<64:=mod_lt _ (by decide);have m:f%64<64:=mod_lt _ (by decide);by_cases i:g=f
  .subst i;simp[p]
  .have q:g%64≠f%64:=fun k=>i (by have:=Nat.div_add_mod g 64;have:=Nat.div_add_mod f 64;omega);rw[x9m i];by_cases j:g%64<f%64
   .simp [j]
   .have:(1#64).getLsbD (g%64-f%64)=false:=by
     rw[BitVec.getLsbD_one];have:¬g%64-f%64=0:=by omega
     simp[this]
    simp[this]
 .rw [x7w,x9p (z1d h),x7w];have i:g≠f:=fun k=>h (by rw[k]);rw[x9m i,Bool.or_false]
def Pv(w f:Nat):bitW (List.replicate w 0) f=false:=by
 unfold bitW;rw[x7w,x8g];split<;>simp
def HP(w:Nat)(fs:List Int):List Wd:=fs.foldl (fun ws f=>EK ws f.toNat) (List.replicate w 0)
def AW(fs:List Int):∀ws:List Wd,(fs.foldl (fun ws f=>EK ws f.toNat) ws).length=ws.length:=by
 induction fs with
 |nil=>intro ws;rfl
 |cons f r h=>intro ws;rw[z0b,h,TH]
def Vh(w:Nat)(fs:List Int):(HP w fs).length=w:=by unfold HP;rw[AW,x9w]
def EM(w:Nat)(fs:List Int){j:Nat}(h:j<fs.length):HP w (fs.take (j+1))=EK (HP w (fs.take j)) fs[j].toNat:=by
 unfold HP;rw[x7r h,z2h];rfl
def Ou{w:Nat}{fs:List Int}(h:∀f∈fs,0<=f/\f.toNat/64<w)(g:Nat):bitW (HP w fs) g=decide ((g:Int)∈fs):=by
 unfold HP;have key:∀(fs:List Int)(ws:List Wd),ws.length=w->(∀f∈fs,0<=f/\f.toNat/64<w)->bitW (fs.foldl (fun ws f=>EK ws f.toNat) ws) g=(bitW ws g||decide ((g:Int)∈fs)):=fun fs=>by
  induction fs with
  |nil=>intro ws _ _;simp
  | cons f r k=>
    intro ws i hr;obtain⟨l,m⟩:=hr f x7v;rw[z0b,k _ (by rw[TH];exact i) fun x j=>hr x (x7j _ j),Ov (by omega),Bool.or_assoc];congr 1;rw[z3j];simp only[z1y,x8l,x7f];constructor
    .rintro (h|h)
     .exact .inl (by omega)
     .exact .inr h
    .rintro (h|h)
     .exact .inl (by omega)
     .exact .inr h
 rw[key fs _ (by simp) h,Pv,Bool.false_or]
def BE(w:Nat)(g i k:List Wd):List Wd:=(List.range w).map fun j=>g.getD j 0 |||(i.getD j 0 &&& ~~~(k.getD j 0))
def AL(w:Nat)(g i k:List Wd):(BE w g i k).length=w:=by unfold BE;simp
def U9{w:Nat}{g i k:List Wd}{f:Nat}(h:f/64<w):bitW (BE w g i k) f=(bitW g f||(bitW i f && !bitW k f)):=by
 unfold bitW BE;rw[x7w (l:=(List.range w).map _),x7k,z1p h];simp only[z0o,x9u];rw[BitVec.getLsbD_or,BitVec.getLsbD_and,BitVec.getLsbD_not];have:f%64<64:=mod_lt _ (by decide);simp[this]
def x5q{x:Wd}(h:x≠0):∃k,k<64/\x.getLsbD k=true:=by
 refine z0c fun l=>h ?_;refine BitVec.eq_of_getLsbD_eq fun i j=>?_;have:x.getLsbD i=false:=by
  cases m:x.getLsbD i with
  |false=>rfl
  |true=>exact absurd ⟨i,j,m⟩ l
 rw[this];simp
def Mm(x:Wd):(((x.toNat:Int)==0)=false)↔x≠0:=by
 constructor
 .rintro h rfl;simp at h
 .intro h;have:x.toNat≠0:=fun i=>h (BitVec.eq_of_toNat_eq (by simpa using i));simpa using this
def Nm{b c:List Wd}(h:c.length=b.length):Q0 b c b.length=true ↔ ∃f,f/64<b.length/\bitW c f=true/\bitW b f=false:=by
 unfold Q0;rw[x8e];constructor
 .rintro ⟨i,q,d⟩;have q:=x8n.1 q;have j:(c.getD i 0 &&& ~~~(b.getD i 0))≠0:=(Mm _).1 (by simpa using d);obtain⟨k,a,m⟩:=x5q j;rw[BitVec.getLsbD_and,BitVec.getLsbD_not,x7i]at m;refine⟨64*i+k,by omega,?_,?_⟩
  .unfold bitW;rw[show(64*i+k)/64=i by omega,show(64*i+k)%64=k by omega];exact m.1
  .unfold bitW;rw[show(64*i+k)/64=i by omega,show(64*i+k)%64=k by omega];have:=m.2;simpa[a]using this
 .rintro ⟨f,z,j,p⟩;refine⟨f/64,x8n.2 z,?_⟩;have v:(c.getD (f/64) 0 &&& ~~~(b.getD (f/64) 0))≠0:=fun y=>by
   have:=x9l (fun x:Wd=>x.getLsbD (f%64)) y;simp only[BitVec.getLsbD_and,BitVec.getLsbD_not,BitVec.getLsbD_zero]at this;unfold bitW at j p;rw[j,p]at this;have l:f%64<64:=mod_lt _ (by decide);simp[l]at this
  have:=(Mm _).2 v;simpa using this
def E2{b c:List Wd}(h:c.length=b.length)(p:Q0 b c b.length=false):ZL b c=b:=by
 have m:∀f,f/64<b.length->bitW c f=true->bitW b f=true:=fun f x j=>by
  cases l:bitW b f with
  |true=>rfl
  |false=>rw[(Nm h).2 ⟨f,x,j,l⟩]at p;cases p
 refine List.ext_getElem (Yy h) fun i j l=>?_;refine BitVec.eq_of_getLsbD_eq fun k y=>?_;have q:bitW (ZL b c) (64*i+k)=(ZL b c)[i].getLsbD k:=by
  unfold bitW;rw[show(64*i+k)/64=i by omega,show(64*i+k)%64=k by omega,x7w,x7x j];rfl
 have e2:bitW b (64*i+k)=b[i].getLsbD k:=by
  unfold bitW;rw[show(64*i+k)/64=i by omega,show(64*i+k)%64=k by omega,x7w,x7x l];rfl
 rw[<-q,<-e2,GV h (by omega)];cases v:bitW c (64*i+k)with
 |false=>rw[Bool.or_false]
 |true=>rw[m _ (by omega) v];rfl
def q4a(w:Nat)(ws:List Wd):Nat:=(List.range (64*w)).countP (bitW ws)
def q4e(w:Nat)(ws:List Wd):q4a w ws<=64*w:=by
 unfold q4a;have:=z2c (p:=bitW ws) (l:=List.range (64*w));simpa using this
theorem Pb{p q:Nat->Bool}(h:∀x,p x=true->q x=true){x:Nat}(j:p x=false)(k:q x=true):∀{l:List Nat},x∈l->l.countP p+1<=l.countP q
 |[],i=>by cases i
 | y::r,i=>by
   have m:r.countP p<=r.countP q:=List.countP_mono_left fun z _ a=>h z a;rw[List.countP_cons,List.countP_cons];rcases x7f.1 i with rfl|i
   .rw [j,k];simp;omega
   .have:=Pb h j k i;cases v:p y with
    |false=>simp;split<;>omega
    |true=>rw[h y v];simp;omega
def Oh{w:Nat}{b c:List Wd}(p:b.length=w)(q:c.length=w)(m:Q0 b c b.length=true):q4a w b+1<=q4a w (ZL b c):=by
 obtain⟨f,l,j,k⟩:=(Nm (by omega)).1 m;refine Pb (x:=f) (fun x i=>?_) k ?_ (x8n.2 (by omega))
 .by_cases h:x/64<b.length
  .rw [GV (by omega) h,i];rfl
  .unfold bitW at i;rw[x7w,x9z (by omega)]at i;simp at i
 .rw [GV (by omega) l,j,Bool.or_true]
inductive SolP(nx:List (List Int))(gen kill:List (List Wd))(f:Nat):Int->Prop
 |gen {a b:Int} (h0:0<=a) (h:bitW (gen.getD a.toNat []) f=true) (hb:b∈nx.getD a.toNat []):SolP nx gen kill f b
 |go {a b:Int} (h0:0<=a) (h:SolP nx gen kill f a) (hk:bitW (kill.getD a.toNat []) f=false) (hb:b∈nx.getD a.toNat []):SolP nx gen kill f b
structure SvS where
 R:List (List Wd)
 todo:List Int
 waits:List Bool
def jnE(goes:List Wd)(st:SvS)(b:Int):SvS:=
 bif Q0 (st.R.getD b.toNat []) goes (st.R.getD b.toNat []).length && !(st.waits.getD b.toNat false)then⟨st.R.set b.toNat (ZL (st.R.getD b.toNat []) goes),st.todo++[b],st.waits.set b.toNat true⟩else⟨st.R.set b.toNat (ZL (st.R.getD b.toNat []) goes),st.todo,st.waits⟩
def goA(w:Nat)(gen kill:List (List Wd))(R:List (List Wd))(a:Nat):List Wd:=BE w (gen.getD a []) (R.getD a []) (kill.getD a [])
structure SvI(n w:Nat)(nx:List (List Int))(gen kill:List (List Wd))(st:SvS):Prop where
 len:st.R.length=n
 rows:∀r∈st.R,r.length=w
 wl:st.waits.length=n
 nd:st.todo.Nodup
 rng:∀b∈st.todo,0<=b/\b<n
 wt:∀b:Int,0<=b->b<n->(st.waits.getD b.toNat false=true↔b∈st.todo)
 snd:∀b:Int,0<=b->b<n->∀f,f/64<w->bitW (st.R.getD b.toNat []) f=true->SolP nx gen kill f b
def closedA(n w:Nat)(nx:List (List Int))(gen kill:List (List Wd))(R:List (List Wd))(x:Int):Prop:=∀b∈nx.getD x.toNat [],∀f,f/64<w->bitW (goA w gen kill R x.toNat) f=true->bitW (R.getD b.toNat []) f=true
def VN(w:Nat)(R:List (List Wd)):Nat:=(R.map (q4a w)).sum
structure SvJ(n w:Nat)(nx:List (List Int))(gen kill:List (List Wd))(a:Int)(goes:List Wd)(j:Nat)(st:SvS):Prop where
 I:SvI n w nx gen kill st
 cl:∀x:Int,0<=x->x<n->x∉st.todo->x≠a->closedA n w nx gen kill st.R x
 go:a∉st.todo->goA w gen kill st.R a.toNat=goes
 pr:∀b∈(nx.getD a.toNat []).take j,∀f,f/64<w->bitW goes f=true->bitW (st.R.getD b.toNat []) f=true
theorem Ig{w:Nat}:∀(l:List (List Wd))(i:Nat)(r:List Wd)(h:i<l.length),VN w (l.set i r)+q4a w l[i]=VN w l+q4a w r
 |x::l,0,r,_=>by simp only[VN,z1g,x8v,z3y,List.getElem_cons_zero];omega
 | x::l,i+1,r,h=>by
   have:=Ig (w:=w) l i r (by simpa using h);simp only[VN,List.set_cons_succ,x8v,z3y,List.getElem_cons_succ]at this⊢;omega
theorem Uj{w:Nat}:∀(l:List (List Wd)),VN w l<=l.length*(64*w)
 |[]=>by simp[VN]
 | x::l=>by
   have i:=q4e w x;have h:=Uj (w:=w) l;simp only[VN,x8v,z3y,x8j]at h⊢;rw[x9a];omega
section
variable {n w:Nat}{nx:List (List Int)}{gen kill:List (List Wd)}(hnx : ∀ r∈nx,∀ b∈r,0<=b/\b<n)
include hnx
theorem q5o{a:Int}(ha0:0<=a)(han:a<n){goes:List Wd}(hgl:goes.length=w)(hgs:∀f,f/64<w->bitW goes f=true->∀b∈nx.getD a.toNat [],SolP nx gen kill f b){j:Nat}{st:SvS}(h:SvJ n w nx gen kill a goes j st)(hj:j<(nx.getD a.toNat []).length):
  SvJ n w nx gen kill a goes (j+1) (jnE goes st (nx.getD a.toNat [])[j])/\VN w st.R+(jnE goes st (nx.getD a.toNat [])[j]).todo.length<=VN w (jnE goes st (nx.getD a.toNat [])[j]).R+st.todo.length:=by
 obtain⟨I,hcl,hgo,hpr⟩:=h;have c:=x7l hj;have htk:=x7r hj;generalize hb:(nx.getD a.toNat [])[j]=b at c htk⊢;have D:0<=b/\b<n:=by
  rw[x7w]at c;cases H:nx[a.toNat]?with
  |none=>rw[H]at c;cases c
  |some r=>rw[H]at c;exact hnx r (x7t H) b c
 have C:b.toNat<st.R.length:=by have:=I.len;omega
 have g:st.R.getD b.toNat []=st.R[b.toNat]:=by rw[x7w,x7x C];rfl
 have U:(st.R.getD b.toNat []).length=w:=by rw[g];exact I.rows _ (x7l C)
 obtain⟨row,A⟩ : ∃row,row=st.R.getD b.toNat []:=⟨_,rfl⟩;rw[<-A]at U g;have hjl:(ZL row goes).length=w:=by rw[Yy (by omega)];exact U
 obtain⟨k,z⟩ : ∃k,k=st.R.set b.toNat (ZL row goes):=⟨_,rfl⟩;have v:∀x:Int,0<=x->k.getD x.toNat []=if x=b then ZL row goes else st.R.getD x.toNat []:=fun x p=>by
  rw[z];by_cases d:x=b
  ·rw[d,if_pos rfl,x7w,x9j C];rfl
  ·rw[if_neg d,x7w,x9p (by omega),x7w]
 have E:∀x:Int,0<=x->∀f,f/64<w->bitW (st.R.getD x.toNat []) f=true->bitW (k.getD x.toNat []) f=true:=fun x p f M i=>by
  rw[v x p];split
  ·rename_i d;rw[d,<-A]at i;rw[GV (by omega) (by omega),i];rfl
  ·exact i
 have G:∀x∈(nx.getD a.toNat []).take (j+1),∀f,f/64<w->bitW goes f=true->bitW (k.getD x.toNat []) f=true:=fun x p f M hg=>by
  have m:0<=x:=by
   have L:=z2i p;rw[x7w]at L;cases H:nx[a.toNat]?with
   |none=>rw[H]at L;cases L
   |some r=>rw[H]at L;exact(hnx r (x7t H) x L).1
  rw[htk]at p;rcases x7b.1 p with p|p
  ·exact E x m f M (hpr x p f M hg)
  ·rw[x7y]at p;rw[v x m,if_pos p,GV (by omega) (by omega),hg,Bool.or_true]
 have hI:∀(l:List Int)(q:List Bool),l.Nodup->q.length=n->(∀b∈l,0<=b/\b<n)->(∀b:Int,0<=b->b<n->(q.getD b.toNat false=true↔b∈l))->SvI n w nx gen kill ⟨k,l,q⟩:=fun l q Y Z h3 h4=>by
  refine⟨by rw[z,x9d];exact I.len,fun r hr=>?_,Z,Y,h3,h4,fun x m B f M i=>?_⟩
  ·rw[z]at hr;rcases z1f hr with h|h
   ·exact I.rows r h
   ·rw[h];exact hjl
  ·have i:bitW (k.getD x.toNat []) f=true:=i;rw[v x m]at i;split at i
   ·rename_i d;subst d;rw[GV (by omega) (by omega),z1y]at i;rcases i with i|i
    ·exact I.snd x m B f M (A▸i)
    ·exact hgs f M i x c
   ·exact I.snd x m B f M i
 have hcnt:=Ig (w:=w) st.R b.toNat (ZL row goes) C;rw[<-z,<-g]at hcnt;cases hm:Q0 row goes row.length with
 | false=>
   have V:=E2 (by omega) hm;have F:k=st.R:=by
    rw[z,V,g];exact List.set_getElem_self C
   have e:jnE goes st b=⟨k,st.todo,st.waits⟩:=by
    unfold jnE;rw[<-A,hm,Bool.false_and,x7o,<-z]
   rw[e];refine⟨⟨hI _ _ I.nd I.wl I.rng I.wt,?_,?_,G⟩,?_⟩
   ·rw[F];exact hcl
   ·rw[F];exact hgo
   ·rw[F];exact x7s _
 | true=>
   have hc2:=Oh (w:=w) U hgl hm;have O:∀l:List Int,(∀x,x∈st.todo->x∈l)->b∈l->∀x:Int,0<=x->x<n->x∉l->x≠a->closedA n w nx gen kill k x:=fun l Y Z x m B p hxa y T f M hg=>by
    have hxb:x≠b:=fun d=>p (d▸Z);have hy0:0<=y:=by
     rw[x7w]at T;cases H:nx[x.toNat]?with
     |none=>rw[H]at T;cases T
     |some r=>rw[H]at T;exact(hnx r (x7t H) y T).1
    refine E y hy0 f M (hcl x m B (fun h=>p (Y x h)) hxa y T f M ?_);unfold goA at hg⊢
    rwa[v x m,if_neg hxb]at hg
   have Q:∀l:List Int,(∀x,x∈st.todo->x∈l)->b∈l->a∉l->goA w gen kill k a.toNat=goes:=fun l Y Z h3=>by
    have hab:a≠b:=fun d=>h3 (d▸Z);rw[<-hgo fun h=>h3 (Y a h)];unfold goA;rw[v a ha0,if_neg hab]
   cases J:st.waits.getD b.toNat false with
   | true=>
     have N:=(I.wt b D.1 D.2).1 J;have e:jnE goes st b=⟨k,st.todo,st.waits⟩:=by
      unfold jnE;rw[<-A,hm,J,Bool.not_true,Bool.and_false,x7o,<-z]
     rw[e];refine⟨⟨hI _ _ I.nd I.wl I.rng I.wt,O st.todo (fun _ h=>h) N,Q st.todo (fun _ h=>h) N,G⟩,?_⟩;show VN w st.R+st.todo.length<=VN w k+st.todo.length;omega
   | false=>
     have N:b∉st.todo:=fun h=>by
      rw[(I.wt b D.1 D.2).2 h]at J;cases J
     have e:jnE goes st b=⟨k,st.todo++[b],st.waits.set b.toNat true⟩:=by
      unfold jnE;rw[<-A,hm,J,Bool.not_false,Bool.and_true,x7c,<-z]
     have hwl:b.toNat<st.waits.length:=by have:=I.wl;omega
     rw[e];refine⟨⟨hI _ _ ?_ (by rw[x9d];exact I.wl) (fun x p=>?_) (fun x m B=>?_),O _ (fun _ h=>x8t _ h) (x8s _ (x7y.2 rfl)),Q _ (fun _ h=>x8t _ h) (x8s _ (x7y.2 rfl)),G⟩,?_⟩
     ·rw[x9k];exact⟨I.nd,by simp,fun x p y T d=>N (by rw[<-x7y.1 T,<-d];exact p)⟩
     ·rcases x7b.1 p with p|p
      ·exact I.rng x p
      ·rw[x7y.1 p];exact D
     ·rw[x7b,x7y];by_cases d:x=b
      ·subst d;rw[x7w,x9j hwl];simp
      ·rw[x7w,x9p (by omega),<-x7w,I.wt x m B];simp[d]
     ·show VN w st.R+(st.todo++[b]).length<=VN w k+st.todo.length;rw[x7u,x8k];omega
omit hnx in
theorem q0i{a:Int}{r:List Int}{st:SvS}(h:SvI n w nx gen kill st)(y:∀x:Int,0<=x->x<n->x∉st.todo->closedA n w nx gen kill st.R x)(p:st.todo=a::r):
  SvJ n w nx gen kill a (goA w gen kill st.R a.toNat) 0 ⟨st.R,r,st.waits.set a.toNat false⟩/\∀f,f/64<w->bitW (goA w gen kill st.R a.toNat) f=true->∀b∈nx.getD a.toNat [],SolP nx gen kill f b:=by
 have i:=h.rng a (by rw[p];exact x7v);have j:=h.nd;rw[p,x8i]at j;have z:a.toNat<st.waits.length:=by have:=h.wl;omega
 refine⟨⟨⟨h.len,h.rows,by rw[x9d];exact h.wl,j.2,fun b k=>h.rng b (by rw[p];exact x7j _ k),fun b q v=>?_,h.snd⟩,fun x c e C d=>y x c e (by rw[p,x7f];rintro(l|l);exact d l;exact C l),fun _=>rfl,fun b k=>by simp at k⟩,fun f g m b k=>?_⟩
 ·by_cases l:b=a
  ·subst l;rw[x7w,x9j z];simp[j.1]
  ·show(st.waits.set a.toNat false).getD b.toNat false=true↔b∈r;rw[x7w,x9p (by omega),<-x7w,h.wt b q v,p,x7f];simp[l]
 ·unfold goA at m;rw[U9 g,z1y,x7i,x9r]at m;rcases m with m|⟨A,B⟩
  ·exact .gen i.1 m k
  ·exact .go i.1 (h.snd a i.1 i.2 f g A) B k
omit hnx in
def On{a:Int}{goes:List Wd}{st:SvS}(h:SvJ n w nx gen kill a goes (nx.getD a.toNat []).length st):∀x:Int,0<=x->x<n->x∉st.todo->closedA n w nx gen kill st.R x:=fun x j k m=>by
 by_cases l:x=a
 .subst l;have v:=h.go m;intro b p f q i;rw[v]at i;exact h.pr b (by rw[z3q];exact p) f q i
 .exact h.cl x j k m l
omit hnx in
theorem q1a{st:SvS}(h:SvI n w nx gen kill st)(m:∀x:Int,0<=x->x<n->x∉st.todo->closedA n w nx gen kill st.R x)(y:st.todo=[])(d:nx.length<=n){b:Int}(k:0<=b)(l:b<n){f:Nat}(p:f/64<w):bitW (st.R.getD b.toNat []) f=true↔SolP nx gen kill f b:=by
 refine⟨h.snd b k l f p,fun e=>?_⟩;have q:∀{a:Int}{b:Int},0<=a->b∈nx.getD a.toNat []->a<n:=fun {a b} j i=>by
  rw[x7w]at i;cases v:nx[a.toNat]?with
  |none=>rw[v]at i;cases i
  | some r=>
    have:=(x7h.1 v).1;omega
 clear k l;induction e with
 | @gen a b j z i=>
   refine m a j (q j i) (by rw[y];simp) b i f p ?_;unfold goA;rw[U9 p,z];rfl
 | @go a b j _ c i g=>
   refine m a j (q j i) (by rw[y];simp) b i f p ?_;unfold goA;rw[U9 p,g,c,Bool.not_false,Bool.and_true,Bool.or_true]
omit hnx in
theorem I8(z:nx.length<=n):SvI n w nx gen kill ⟨List.replicate n (List.replicate w 0),(List.range n).map ofNat,List.replicate n true⟩:=by
 refine⟨by simp,fun r hr=>by rw[(z3h.1 hr).2];simp,by simp,?_,fun b m=>?_,fun b k l=>?_,fun b k l f v h=>?_⟩
 ·exact List.nodup_range.map _ fun x y j p=>j (Int.ofNat.inj p)
 ·obtain⟨x,q,rfl⟩:=x7d.1 m;have:=x8n.1 q;exact⟨z2s _,by show(x:Int)<n;omega⟩
 ·have i:b.toNat<n:=by omega
  simp only[x7w,x8g,if_pos i,x9u,true_iff];exact x7d.2 ⟨b.toNat,x8n.2 i,by show((b.toNat:Nat):Int)=b;omega⟩
 ·have i:b.toNat<n:=by omega
  simp only[x7w,x8g,if_pos i,x9u]at h;rw[Pv]at h;cases h
end
inductive MrA(k a q n:Nat)(two:Bool):List LV->List LV->Prop
 |nil:MrA k a q n two [] []
 |row {ls ls0:List LV} (hs:MrA k a q n two ls ls0):MrA k a q n two (.ext k (.row a n)::ls) (.hd 1000 0 n::ls0)
 |own {m:Nat} {ls ls0:List LV} (ht:two=true) (hs:MrA k a q n two ls ls0):MrA k a q n two (.hd q 0 m::ls) (.hd 1001 0 m::ls0)
 |p {x y:AV} {ls ls0:List LV} (h:Sub x y) (hs:MrA k a q n two ls ls0):MrA k a q n two (.p x::ls) (.p y::ls0)
theorem MrA.get{k a q n:Nat}{e:Bool}{ls c:List LV}(h:MrA k a q n e ls c):ls.length=c.length/\∀(j:Nat)(v:LV),c[j]?=some v->∃l,ls[j]?=some l/\((l=.ext k (.row a n)/\v=.hd 1000 0 n)\/(∃m,e=true/\l=.hd q 0 m/\v=.hd 1001 0 m)\/∃x y,l=.p x/\v=.p y/\Sub x y):=by
 induction h with
 |nil=>exact⟨rfl,by simp⟩
 | row f z=>
   refine⟨by simp[z.1],fun j v i=>?_⟩;cases j with
   |zero=>simp at i;subst i;exact⟨_,rfl,.inl ⟨rfl,rfl⟩⟩
   |succ j=>exact z.2 j v (by simpa using i)
 | own g f z=>
   refine⟨by simp[z.1],fun j v i=>?_⟩;cases j with
   |zero=>simp at i;subst i;exact⟨_,rfl,.inr (.inl ⟨_,g,rfl,rfl⟩)⟩
   |succ j=>exact z.2 j v (by simpa using i)
 | p h f z=>
   refine⟨by simp[z.1],fun j v i=>?_⟩;cases j with
   |zero=>simp at i;subst i;exact⟨_,rfl,.inr (.inr ⟨_,_,rfl,rfl,h⟩)⟩
   |succ j=>exact z.2 j v (by simpa using i)
def C4{H:Heap}(h:(H.map (·.1)).Nodup){k:Nat}{c d:Chunk}(l:(k,c)∈H)(m:(k,d)∈H):c=d:=by
 induction H with
 |nil=>cases l
 | cons x r p=>
   rw[x8v,x8i]at h;rcases x7f.1 l with j|j
   .rcases x7f.1 m with i|i
    .exact (Prod.mk.inj (j.trans i.symm)).2
    .exact (h.1 (x7d.2 ⟨_,i,by rw[<-j]⟩)).elim
   .rcases x7f.1 m with i|i
    .exact (h.1 (x7d.2 ⟨_,j,by rw[<-i]⟩)).elim
    .exact p h.2 j i
def Zk{N:Nat}{K:St->Prop}{g:FuncId}{args args0:List LV}{dst:Option Nat}(k a q:Nat)(C:Bool){e e2 sz e3 sz3:Nat}{rows:List (List AV)}{row V:List AV}(row':List AV){R:LV->Heap->Prop}{S:AV->Prop}(ha:MrA k a q row.length C args args0)(hs:SpecH P g args0 ((1000,.own e2 sz row)::bif C then [(1001,.own e3 sz3 V)]else []) R)(hg:getH s.H k=some (.ext (.mat e e2 sz rows [])))(hrow:rows[a]?=some row)(hne:0<row.length)(hq:C=true->getH s.H q=some (.own e3 sz3 V)/\k≠q)(hR:∀l H',R l H'->∃c,l=.p c/\S c/\H'=(1000,.own e2 sz row')::bif C then [(1001,.own e3 sz3 V)]else [])(hlen:row'.length=row.length)(h:∀c,S c->Jq s.H k (.ext (.mat e e2 sz (rows.set a row') [])) fun H=>setD N s.sl dst (.p c) fun sl=>K ⟨sl,H⟩):CallK P N g args dst s K:=by
 refine⟨fun σ β ac w hr vals hn hv=>⟨hs.go vals,?_⟩⟩;have O:=QD hg;have hal:a<rows.length:=(x7h.1 hrow).1;rcases hr.heap.chunks k _ (QJ hg)with⟨_,h0⟩|⟨i,vs,hi,hisz,hh,hvs,hle,hmax,hsl,hdis,hrows⟩
 .rw [h0]at hal;cases hal
 rcases(hrows a row hrow).2 (by simp)with⟨_,G,_⟩|⟨b,c,ws,Z,hva,hbh,hws,hrl,hc,hel⟩
 .rw [G]at hne;cases hne
 let ri:BInfo:=⟨b,c,sz,[],hc⟩;let β0:Lab:=fun j=>if j=1000 then some ri else if j=1001 then(bif C then β q else none)else none;have hri:∀z,ri.has z->z=b:=fun z F=>by
  rcases F with F|⟨c',F⟩
  .exact F.symm
  .cases F
 have hib:i.has b:=.inr ⟨c,x7t Z⟩;have e0:β0 1000=some ri:=rfl;have e1:C=true->β0 1001=β q:=fun A=>by show(bif C then β q else none)=_;rw[A];rfl
 let H0:Heap:=(1000,.own e2 sz row)::bif C then [(1001,.own e3 sz3 V)]else [];have hlab0:∀j∈H0.map (·.1),j=1000\/(C=true/\j=1001):=fun j B=>by
  simp only[H0,x8v,x7f]at B;rcases B with B|B
  .exact .inl B
  .cases A:C with
   |true=>rw[A]at B;exact .inr ⟨rfl,by simpa using B⟩
   |false=>rw[A]at B;cases B
 have hq1:C=true->q∈s.H.map (·.1):=fun A=>QD (hq A).1;have U:∀j∈H0.map (·.1),∀L,β0 j=some L->∀z,L.has z->(j=1000/\z=b)\/(C=true/\j=1001/\∃Q,β q=some Q/\Q.has z):=fun j B L D z F=>by
  rcases hlab0 j B with rfl|⟨A,rfl⟩
  .rw [e0]at D;cases D;exact .inl ⟨rfl,hri z F⟩
  .rw [e1 A]at D;exact .inr ⟨A,rfl,L,D,F⟩
 have hown:∀z,owns β0 H0 z->z=b\/(C=true/\∃Q,β q=some Q/\Q.has z):=fun z ⟨j,B,L,D,F⟩=>by
  rcases U j B L D z F with⟨_,h⟩|⟨A,_,h⟩
  .exact .inl h
  .exact .inr ⟨A,h⟩
 have hownS:∀z,owns β0 H0 z->owns β s.H z:=fun z ho=>by
  rcases hown z ho with rfl|⟨A,Q,G,J⟩
  .exact ⟨k,O,i,hi,hib⟩
  .exact ⟨q,hq1 A,Q,G,J⟩
 have hH0:HRel σ β0 H0 w:=by
  refine⟨hr.heap.mem,fun j d B=>?_,?_,fun j B L D z F=>?_,fun j B j' hj' i1 i2 G J z hb1 hb2=>?_⟩
  .simp only[H0,x7f]at B;rcases B with B|B
   .cases B;exact .inr ⟨ri,ws,e0,rfl,hbh,hws,hrl,hc,hel⟩
   .cases A:C with
    |false=>rw[A]at B;cases B
    | true=>
      rw[A,x7c,x7y]at B;cases B;have:=hr.heap.chunks q _ (QJ (hq A).1);rcases this with⟨G,J⟩|⟨i2,rest⟩
      .exact .inl ⟨(e1 A).trans G,J⟩
      .exact .inr ⟨i2,by rw[e1 A];exact rest⟩
  .cases C<;>simp[H0]
  .rcases U j B L D z F with⟨_,rfl⟩|⟨A,_,Q,G,J⟩
   .exact hr.heap.apart k O i hi _ hib
   .exact hr.heap.apart q (hq1 A) Q G z J
  .rcases U j B i1 G z hb1 with⟨rfl,rfl⟩|⟨A,rfl,Q,Y,h4⟩<;>rcases U j' hj' i2 J _ hb2 with⟨rfl,h5⟩|⟨ht2,rfl,iq2,h5,I⟩
   .rfl
   .exact absurd (hr.heap.inj k O q (hq1 ht2) i iq2 hi h5 _ hib I) (hq ht2).2
   .subst h5;exact absurd (hr.heap.inj k O q (hq1 A) i Q hi Y _ hib h4) (hq A).2
   .rfl
 obtain⟨hal0,hget⟩:=ha.get;refine(hs.ok σ β0 w vals (hn.trans hal0) (fun j l0 B=>?_) hH0).mono fun ex w' ⟨l,u,σ',β1,H',he,hRl,hrep,hH',f⟩=>?_
 .obtain ⟨l,G,⟨rfl,rfl⟩|⟨m,A,rfl,rfl⟩|⟨x,y,rfl,rfl,J⟩⟩:=hget j l0 B
  .have Y:=hv j _ G;generalize vals.getD j undef=v at Y;cases Y with
   | ext _ _ L _ hk hd=>
     rw[hi]at hk;cases hk;rcases hd with⟨h4,_⟩|⟨z,c',h4,h5,rfl⟩
     .rw [Z]at h4;cases h4
     .rw [Z]at h4;cases h4;have:=z4w (σ:=σ) (β:=β0) 1000 0 row.length ri 0 e0 (by simpa using hrl) (.inl (by simp));simpa using this
  .have Y:=hv j _ G;rcases Y.hdI with⟨h4,_,h5,I⟩|⟨i3,o,h4,h5,I,h7⟩
   .subst h5;rw[I];exact .hdn 1001 ((e1 A).trans h4)
   .rw [h7];exact .hd 1001 0 m i3 o ((e1 A).trans h4) h5 I
  .have Y:=hv j _ G;cases Y with
   |p Y=>exact .p (J _ _ Y)
 .obtain ⟨c0,rfl,hS,rfl⟩:=hR l H' hRl;have p0:β1 1000=some ri:=(f.pin 1000 (by omega) (by omega)).trans e0;have p1:C=true->β1 1001=β q:=fun A=>(f.pin 1001 (by omega) (by omega)).trans (e1 A);have T:∀z,z<w.heap.size->¬owns β0 H0 z->w'.heap[z]?=w.heap[z]?:=fun z F hn=>f.P.block z F hn;have hstay:∀z,owns β0 H0 z->σ' z=none:=fun z ho=>by
   rcases hown z ho with rfl|⟨A,Q,G,J⟩
   .exact (hH'.apart 1000 (by simp) ri p0 _ ri.has_blk).1
   .exact (hH'.apart 1001 (by rw[A];simp) Q ((p1 A).trans G) z J).1
  have hnew:∀z,σ z=none->z<w.heap.size->σ' z=none:=fun z G J=>by
   cases hq:σ' z with
   |none=>rfl
   | some x=>
     rcases f.mem z G (by rw[hq];simp)with Y|Y
     .rw [hstay z Y]at hq;cases hq
     .omega
  have M:∀j∈s.H.map (·.1),(C=true->j≠q)->∀L,β j=some L->∀z,L.has z->(j=k->z≠b)->w'.heap[z]?=w.heap[z]?:=fun j B hjq L D z F hjb=>by
   refine T z (hr.heap.apart j B L D z F).2 fun ho=>?_;rcases hown z ho with rfl|⟨A,Q,G,J⟩
   .have:=hr.heap.inj j B k O L i D hi _ F hib;exact hjb this rfl
   .exact hjq A (hr.heap.inj j B q (hq1 A) L Q D G z F J)
  obtain⟨H2,J,g3,g4,g5⟩:=US hr.heap.nodup (h c0 hS);have hkq:C=true->k≠q:=fun A=>(hq A).2;have hheap:HRel σ' β H2 w':=by
   refine⟨hH'.mem,fun j d B=>?_,by rw[g3];exact hr.heap.nodup,fun j B L D z F=>?_,fun j B j' hj'=>hr.heap.inj j (g3▸B) j' (g3▸hj')⟩
   .by_cases hjk:j=k
    .subst hjk;rw[g5 d B];have hblk:w'.heap[i.blk]?=w.heap[i.blk]?:=M _ O hkq i hi i.blk i.has_blk fun _ he=>(hdis a b c Z).1 he;refine .inr ⟨i,vs,hi,hisz,hblk.trans hh,hvs,by simpa using hle,hmax,by simpa using hsl,hdis,fun p x hx=>⟨fun hin=>by(cases hin),fun _=>?_⟩⟩;by_cases hp:p=a
     .subst hp;rw[x9j hal]at hx;cases hx;rcases hH'.chunks 1000 _ x7v with⟨I,_⟩|⟨i6,ws6,I,h7,h8,h9,h10,h11,h12⟩
      .rw [p0]at I;cases I
      .rw [p0]at I;cases I;exact .inr ⟨b,c,ws6,Z,by rw[hlen];exact hva,h8,h9,h10,h11,h12⟩
     .rw [x9p (z1d hp)]at hx;rcases(hrows p x hx).2 (by simp)with I|⟨z,c',ws',I,h7,h8,h9,h10,h11,h12⟩
      .exact .inl I
      .have hbb:z≠b:=fun he=>hp ((hdis a b c Z).2 p c' (he▸I));refine .inr ⟨z,c',ws',I,h7,(M _ O hkq i hi z (.inr ⟨c',x7t I⟩) fun _=>hbb).trans h8,h9,h10,h11,fun m y hy=>⟨(h12 m y hy).1,fun j' c'' hj'=>?_⟩⟩;obtain⟨u',h13,h14⟩:=(h12 m y hy).2 j' c'' hj';exact⟨u',h13,h14.mono f.le⟩
    .have hm:=g4 j d B hjk;have hjl:j∈s.H.map (·.1):=x7d.2 ⟨_,hm,rfl⟩;by_cases hjq:C=true/\j=q
     .obtain ⟨A,rfl⟩:=hjq;have hd:d=.own e3 sz3 V:=by
       have:=QJ (hq A).1;exact C4 hr.heap.nodup hm this
      subst hd;have hq':=hH'.chunks 1001 (.own e3 sz3 V) (by rw[A];simp);rcases hq' with⟨I,h7⟩|⟨i6,rest⟩
      .exact .inl ⟨(p1 A).symm.trans I,h7⟩
      .exact .inr ⟨i6,by rw[<-p1 A];exact rest⟩
     .exact (hr.heap.chunks j d hm).mono f.le fun i' hi' z F=>M j hjl (fun A he=>hjq ⟨A,he⟩) i' hi' z F fun he=>absurd he hjk
   .have:=hr.heap.apart j (g3▸B) L D z F;exact⟨hnew z this.1 this.2,z0e this.2 f.P.size⟩
  have hr1:Rel N σ' β ⟨s.sl,H2⟩ ac w':=⟨hr.size,hr.defers,fun j=>(hr.E j).mono f.le,hheap⟩;have hrep':RepL σ' β (.p c0) u:=by
   cases hrep with
   |p hrep=>exact .p hrep
  obtain⟨sl,hK,hr2⟩:=hr1.setD hrep' J;refine⟨u,σ',β,_,he,hK,hr2,f.le,⟨f.P.os,f.P.tape,f.P.output,f.P.drawn,f.P.size,fun z F hn=>T z F fun ho=>hn (hownS z ho)⟩,fun z G J=>(f.mem z G J).imp (hownS z) id,fun z ⟨j,B,r⟩=>.inl ⟨j,g3▸B,r⟩,fun _ _ _=>rfl⟩
def DM(l:List Int)(v:Int):SpecP prog 266 [QB l,.int .i64 v] (fun r=>r=.int .i64 (idxF (fun s=>decide (v=s)) l)):=by
 refine sB GC func266 rfl call266 ?_;conv=>whnf
 refine iM fun _=>?_;have m:(l.map (AV.int .i64)).length=l.length:=x7z _;conv=>whnf
 refine LoopK.inv QV (fun j:Nat=>⟨[(0,.p (QB l)),(1,.j v),(7,.p (.int .i64 (l.map (AV.int .i64)).length)),(8,.j j)],[]⟩) (fun j=>j<=l.length/\(l.drop j).any (fun s=>decide (v=s))=l.any (fun s=>decide (v=s))/\l.findIdx (fun s=>decide (v=s))=j+(l.drop j).findIdx (fun s=>decide (v=s))) (fun j=>l.length-j) 0 (Le.of_eq rfl) ⟨x7p _,rfl,by simp⟩ ?_;rintro j ⟨k,h,i⟩;conv=>whnf
 repeat' (first|((first|(refine iA fun _=>?_)|refine wI ?_);conv=>whnf)|(apply bD<;>intro _<;>first|omega|conv=>whnf))
 .exact RetK.int (V8 (p:=fun s=>decide (v=s)) (by omega) (z0y (by assumption)) h i).symm
 .exact ⟨j+1,⟨by omega,by rw[<-h,Kf (p:=fun s=>decide (v=s)) (by omega) (x9m (by assumption))],by rw[i,Ot (p:=fun s=>decide (v=s)) (by omega) (x9m (by assumption))];omega⟩,by omega,Le.of_eq rfl⟩
 .exact RetK.int (by rw[Fc];rw[<-h,X8 (by omega)])
def GB(l:List Int)(v:Int):SpecP prog 208 [QB l,.int .i64 v] (fun r=>r=.bool (l.any fun s=>decide (v=s))):=by
 refine sB JC func208 rfl call208 ?_;conv=>whnf
 repeat' (refine cP (DM _ _) ?_;conv=>whnf)
 exact RetK.bool Xd
def Ky{T:Tab}(hT:TabOK P T){x:Operand}(q:o.op=.binOp .eql t x (.const (.slice none 0 0)) u){i:TyI}(F:T.get t=some i){e:TypeId}(A:i.desc=.slice e){es:List AV}(G:QN s.sl x=.p (.sl es))(g:∀b:Bool,(b=true->es=[])->K (.p (.bool b))):ValO P hr s o K:=by
 refine⟨fun σ β l w D _=>?_⟩;have k:=QQ D x;rw[G]at k;have d:=hT.of F;rw[A]at d;have y:∃j n c,l.eval x=.slice j n c/\(j.isNone=true->es=[]):=by
  generalize l.eval x=v at k;cases k with
  | p k=>
    cases k with
    |nilsl=>exact⟨none,0,0,rfl,fun _=>rfl⟩
    |slz b=>exact⟨some b,0,0,rfl,fun _=>rfl⟩
    |sl _ b off cap sz cells u H z a E I C=>exact⟨_,_,_,rfl,fun h=>(by cases h)⟩
 obtain⟨j,n,c,y,m⟩:=y;refine⟨_,.bool j.isNone,g j.isNone m,.p (.bool _),fun w' _ _=>?_⟩;have f:l.eval (.const (.slice none 0 0))=.slice none 0 0:=rfl;have B:(eqGuard .eql t x (.const (.slice none 0 0)) (.slice j n c) (.slice none 0 0)).run P w'=.ok () w':=by unfold eqGuard;rfl
 have m:(Op.equal t (.slice j n c) (.slice none 0 0)).run P w'=.ok j.isNone w':=by
  have e:Op.equal t (.slice j n c) (.slice none 0 0)=Op.equalIn (9999+1) t (.slice j n c) (.slice none 0 0):=rfl;rw[e,Op.equalIn,Sem.run_bind,run_underlying d,Result.andThen_ok];cases j<;>rfl
 simp only[execOp,q,y,f,Sem.run_bind,B,Result.andThen_ok,binOp];simp[m]
def Sb{L:List Str}{es:List AV}{n:Nat}{nil:Prop}(q:Nat)(i:es=L.map .str)(h:n=L.length):OneRow (Kx L) nil (.hd q 0 n) [(q,.own 9 1 es)]:=by
 subst i;exact .inr ⟨q,_,_,_,by rw[h,x7z],rfl,S2 L,rfl,rfl,rfl⟩
def XR(l:List Str)(j:l.length<=1000000):SpecH prog 170 [.p (eStrs l)] [] (fun r H=>OneRow (Kx l) (l=[]) r H):=by
 refine sH YB func170 rfl call170 ?_;conv=>whnf
 repeat' (first|((first|refine x7g rfl ?_|refine aD ?_|refine Ky QV rfl rfl rfl rfl (fun q h=>?_)|refine z3o (fun x i=>by cases i) rfl ?_|refine KS _ (by simp) (by simp;omega) ?_);conv=>whnf)|(apply bB<;>intro _<;>conv=>whnf))
 all_goals first
  |exact x9h _ (x8z _) (.inl ⟨rfl,rfl,z3z.1 (h (by assumption))⟩)
  |exact x9h _ (x8z _) (Sb 0 rfl (by simp))
inductive CutH:Heap->Heap->Prop
 |nil:CutH [] []
 |same {c:Nat×Chunk} {H H':Heap} (h:CutH H H'):CutH (c::H) (c::H')
 |cut {k:Nat} {e:TypeId} {sz:Nat} {es es':List AV} {H H':Heap} (hp:es' <+: es) (h:CutH H H'):CutH ((k,.own e sz es)::H) ((k,.own e sz es')::H')
theorem CutH.get{H H':Heap}(h:CutH H H'):H'.map (·.1)=H.map (·.1)/\∀j c',(j,c')∈H'->(j,c')∈H\/∃e sz es es',(j,Chunk.own e sz es)∈H/\c'=.own e sz es'/\es' <+: es:=by
 induction h with
 |nil=>exact⟨rfl,by simp⟩
 | same h m=>
   refine⟨by simp[m.1],fun j c' i=>?_⟩;rcases x7f.1 i with rfl|i
   .exact .inl x7v
   .rcases m.2 j c' i with l|⟨e,sz,es,es',l,q⟩
    .exact .inl (x7j _ l)
    .exact .inr ⟨e,sz,es,es',x7j _ l,q⟩
 | @cut k e sz es es' H H' v h m=>
   refine⟨by simp[m.1],fun j c' i=>?_⟩;rcases x7f.1 i with i|i
   .cases i;exact .inr ⟨e,sz,es,es',x7v,rfl,v⟩
   .rcases m.2 j c' i with l|⟨e,sz,es,es',l,q⟩
    .exact .inl (x7j _ l)
    .exact .inr ⟨e,sz,es,es',x7j _ l,q⟩
theorem Le.cut{N:Nat}{sl:List (Nat×LV)}{H H':Heap}(h:CutH H H'):Le N ⟨sl,H⟩ ⟨sl,H'⟩:=fun σ β a w hr=>by
 obtain⟨v,I⟩:=h.get;refine⟨σ,β,⟨hr.size,hr.defers,hr.E,⟨hr.heap.mem,fun j c' l=>?_,by show(H'.map (·.1)).Nodup;rw[v];exact hr.heap.nodup,fun j l=>hr.heap.apart j (by rw[<-v];exact l),fun j l J f=>hr.heap.inj j (by rw[<-v];exact l) J (by rw[<-v];exact f)⟩⟩,Mem.le_refl σ,Frm.refl _ w,fun b A q=>absurd A q,fun b ⟨j,l,r⟩=>.inl ⟨j,by rw[<-v];exact l,r⟩,fun _ _ _=>rfl⟩;rcases I j c' l with q|⟨e,sz,es,es',q,rfl,y⟩
 .exact hr.heap.chunks j c' q
 .rcases hr.heap.chunks j _ q with⟨z,c⟩|⟨i,vs,z,c,B,C,D,F,G⟩
  .refine .inl ⟨z,?_⟩;rw[c]at y;exact List.prefix_nil.1 y
  .exact .inr ⟨i,vs,z,c,B,C,x8m y.length_le D,F,fun m x g=>G m x (by
    obtain⟨t,rfl⟩:=y;rw[x8c (x7h.1 g).1];exact g)⟩
def CV:List Str->Nat
 |[]=>0
 |s::r=>1+CV r
mutual
def wX:X->Nat
 |.mk _ _ name kids=>1+wXs kids
def wXs:List X->Nat
 |[]=>0
 |x::r=>wX x+wXs r
end
def PV:List Arg->Nat
 |[]=>0
 |a::r=>wX a.x+1+PV r
mutual
def wS:S->Nat
 |.mk _ _ G name D x _ args L M=>wX x+CV G+1+1+PV args+wL L+wL M
def wL:List S->Nat
 |[]=>0
 |s::r=>wS s+wL r
end
def q7e:List Param->Nat
 |[]=>0
 |a::r=>1+q7e r
def wPr(f:Pr):Nat:=1+CV f.F+CV f.fin+q7e f.C+wL f.body
def q7i:List Pr->Nat
 |[]=>0
 |f::r=>wPr f+q7i r
def wPg(p:Pg):Nat:=CV p.B+q7i p.A
def Fit(p:Pg):Prop:=wPg p<=21000
theorem BT:∀l:List Str,l.length<=CV l
 |[]=>x7p _
 |s::r=>by have:=BT r;simp only[x8j,CV];omega
theorem DS:∀l:List Arg,l.length<=PV l
 |[]=>x7p _
 |s::r=>by have:=DS r;simp only[x8j,PV];omega
theorem Sq:∀l:List Param,l.length<=q7e l
 |[]=>x7p _
 |s::r=>by have:=Sq r;simp only[x8j,q7e];omega
def RJ(s:S):wS s=wX s.x+CV s.G+1+1+PV s.args+wL s.L+wL s.M:=by
 cases s;rw[wS];rfl
mutual
theorem q8s:∀s:S,ZU s<=wS s
 | .mk id kind G name D x has args L M=>by
   have:=Pf L;have:=Pf M;rw[ZU,wS];omega
theorem Pf:∀l:List S,cntL l<=wL l
 |[]=>by rw[cntL,wL];exact x7s _
 | s::r=>by
   have:=q8s s;have:=Pf r;rw[cntL,wL];omega
end
theorem RY:∀{l:List Pr}{f:Pr},f∈l->wPr f<=q7i l
 | g::r,f,h=>by
   simp only[q7i];rcases x7f.1 h with rfl|h
   .omega
   .have:=RY h;omega
theorem Fit.pr{p:Pg}(h:Fit p){f:Pr}(i:f∈p.A):wPr f<=21000:=by
 have:=RY i;unfold Fit wPg at h;omega
mutual
def flS:S->List S
 |.mk id kind G name D x has args L M=>.mk id kind G name D x has args L M::(flL L++flL M)
def flL:List S->List S
 |[]=>[]
 |s::r=>flS s++flL r
end
def G2(s:S):flS s=s::(flL s.L++flL s.M):=by
 cases s;rw[flS];rfl
mutual
theorem q5j:∀s:S,(flS s).length=ZU s
 | .mk id kind G name D x has args L M=>by
   rw[flS,ZU,x8j,x7u,Un L,Un M];omega
theorem Un:∀l:List S,(flL l).length=cntL l
 |[]=>by rw[flL,cntL];rfl
 |s::r=>by rw[flL,cntL,x7u,q5j s,Un r]
end
mutual
theorem x2j:∀(s t:S),t∈flS s->wS t<=wS s
 | .mk id kind G name D x has args L M,t,h=>by
   rw[flS]at h;rcases x7f.1 h with rfl|h
   ·exact x7s _
   ·rw[wS];rcases x7b.1 h with h|h
    ·have:=Pl L t h;omega
    ·have:=Pl M t h;omega
theorem Pl:∀(l:List S)(t:S),t∈flL l->wS t<=wL l
 |[],t,h=>by rw[flL]at h;cases h
 | s::r,t,h=>by
   rw[flL]at h;rw[wL];rcases x7b.1 h with h|h
   ·have:=x2j s t h;omega
   ·have:=Pl r t h;omega
end

mutual
def itS(D up nx loop:Int)(n:Nat):S->List Item
 | .mk id kind G name pr x has args L M=>
   ⟨.mk id kind G name pr x has args L M,D,up,nx,loop⟩::(itL D (n+1) (if kind=6 then n+1 else nx) (if kind=6 then n+1 else loop) (n+1) L ++
     itL D (n+1) (if kind=6 then n+1 else nx) (if kind=6 then n+1 else loop) (n+1+cntL L) M)
def itL(D up nx loop:Int)(n:Nat):List S->List Item
 |[]=>[]
 |t::r=>itS D up (if r.isEmpty then nx else n+1+ZU t) loop n t++itL D up nx loop (n+ZU t) r
end
def q9e(D i nx h:Int)(n:Nat)(t:S):itS D i nx h n t=⟨t,D,i,nx,h⟩::(itL D (n+1) (if t.kind=6 then n+1 else nx) (if t.kind=6 then n+1 else h) (n+1) t.L ++
   itL D (n+1) (if t.kind=6 then n+1 else nx) (if t.kind=6 then n+1 else h) (n+1+cntL t.L) t.M):=by
 cases t;rw[itS];rfl
mutual
theorem q6e(D up nx loop:Int):∀(t:S)(acc:List Item),Vg D up nx loop acc t=acc++itS D up nx loop acc.length t
 | .mk id kind G name pr x has args L M,acc=>by
   rw[Vg,itS,Q8 _ _ _ _ L,Q8 _ _ _ _ M];simp only[x7u,x8j,z0p,x8w,List.cons_append,z0i,ZC D _ _ _ _ L,z0q,z0l,z3a (cntL L) 1]
theorem Q8(D up nx loop:Int):∀(l:List S)(acc:List Item),XD D up nx loop acc l=acc++itL D up nx loop acc.length l
 |[],acc=>by rw[XD,itL,x9q]
 | t::r,acc=>by
   rw[XD,itL,q6e _ _ _ _ t,Q8 _ _ _ _ r];simp only[x7u,x8w,AA D _ _ _ _ t]
theorem AA(D up nx loop:Int)(n:Nat):∀t:S,(itS D up nx loop n t).length=ZU t
 | .mk id kind G name pr x has args L M=>by
   rw[itS,ZU,x8j,x7u,ZC _ _ _ _ _ L,ZC _ _ _ _ _ M];omega
theorem ZC(D up nx loop:Int)(n:Nat):∀l:List S,(itL D up nx loop n l).length=cntL l
 |[]=>by rw[itL,cntL];rfl
 |t::r=>by rw[itL,cntL,x7u,AA _ _ _ _ _ t,ZC _ _ _ _ _ r]
end
mutual
theorem x2p(D up nx loop:Int)(n:Nat):∀t:S,(itS D up nx loop n t).map Item.s=flS t
 | .mk id kind G name pr x has args L M=>by
   rw[itS,flS,x8v,x7n,BI _ _ _ _ _ L,BI _ _ _ _ _ M]
theorem BI(D up nx loop:Int)(n:Nat):∀l:List S,(itL D up nx loop n l).map Item.s=flL l
 |[]=>by rw[itL,flL];rfl
 |t::r=>by rw[itL,flL,x7n,x2p _ _ _ _ _ t,BI _ _ _ _ _ r]
end
def QP:List Pr->Nat->Nat
 |_,0=>0
 |[],_+1=>0
 |f::r,i+1=>cntL f.body+QP r i
theorem Nl:∀(l:List Pr)(i:Nat)(acc:List Item)(lo hi:List Int),lo.length=i->hi.length=i->
  (Jr i acc lo hi l).2.1.length=i+l.length/\(Jr i acc lo hi l).2.2.length=i+l.length/\
  (∀k,k<i->(Jr i acc lo hi l).2.1[k]?=lo[k]? /\(Jr i acc lo hi l).2.2[k]?=hi[k]?)/\∃L,(Jr i acc lo hi l).1=acc++L/\L.length=cntP l/\
  ∀(k:Nat)(f:Pr),l[k]?=some f->(Jr i acc lo hi l).2.1[i+k]?=some ((acc.length+QP l k:Nat)+1:Int)/\(Jr i acc lo hi l).2.2[i+k]?=some ((acc.length+QP l k+cntL f.body:Nat)+1:Int)/\
   QP l k+cntL f.body<=cntP l/\(L.take (QP l k+cntL f.body)).drop (QP l k)=itL (i+k:Nat) 0 (-1) 0 (acc.length+QP l k) f.body
 | [],i,acc,lo,hi,h1,h2=>by
   rw[Jr];exact⟨by simpa using h1,by simpa using h2,fun _ _=>⟨rfl,rfl⟩,[],by simp,rfl,fun k f h=>by simp at h⟩
 | f::r,i,acc,lo,hi,h1,h2=>by
   rw[Jr];have v:=Q8 i 0 (-1) 0 f.body acc;have j:=XY i 0 (-1) 0 acc f.body;obtain⟨a,c,y,L,d,e,A⟩:=Nl r (i+1) (XD i 0 (-1) 0 acc f.body) (lo++[(acc.length:Int)+1]) (hi++[((XD i 0 (-1) 0 acc f.body).length:Int)+1]) (by simp[h1]) (by simp[h2]);refine⟨by rw[a,x8j];omega,by rw[c,x8j];omega,fun k B=>?_,itL i 0 (-1) 0 acc.length f.body++L,?_,?_,fun k g x=>?_⟩
   .obtain ⟨q,m⟩:=y k (by omega);rw[q,m,x8c (by omega),x8c (by omega)];exact⟨rfl,rfl⟩
   .rw [d,v,x8w]
   .rw [x7u,e,ZC,cntP]
   .cases k with
    | zero=>
      simp only[z3v,z1w]at x;subst x;obtain⟨q,m⟩:=y i (by omega);simp only[z2x,QP,z0q,z4z];refine⟨?_,?_,?_,?_⟩
      .rw [q,x8f (by omega),h1];simp
      .rw [m,x8f (by omega),h2,j];simp
      .rw [cntP];omega
      .rw [List.take_append_of_le_length (by rw[ZC];omega),x7a (by rw[ZC];omega)]
    | succ k=>
      simp only[z3w]at x;obtain⟨q,m,z,p⟩:=A k g x;rw[j]at p;simp only[QP];refine⟨?_,?_,?_,?_⟩
      .rw [show i+(k+1)=i+1+k by omega,q,j];congr 2;omega
      .rw [show i+(k+1)=i+1+k by omega,m,j];congr 2;omega
      .rw [cntP];omega
      .rw [List.take_append,List.drop_append,ZC,x7a (by rw[ZC];omega),x7e (by rw[ZC];omega),z0i];simp only[ZC];rw[show cntL f.body+QP r k+cntL g.body-cntL f.body=QP r k+cntL g.body by omega,show cntL f.body+QP r k-cntL f.body=QP r k by omega,p];rw[show i+(k+1)=i+1+k by omega,show acc.length+(cntL f.body+QP r k)=acc.length+cntL f.body+QP r k by omega]
def QU(p:Pg):(sheetOf p).p=p/\(sheetOf p).lo.length=p.A.length/\(sheetOf p).hi.length=p.A.length/\(sheetOf p).l.length=cntP p.A/\
  ∀(k:Nat)(f:Pr),p.A[k]?=some f->(sheetOf p).lo[k]?=some ((QP p.A k:Nat)+1:Int)/\(sheetOf p).hi[k]?=some ((QP p.A k+cntL f.body:Nat)+1:Int)/\
   QP p.A k+cntL f.body<=cntP p.A/\((sheetOf p).l.take (QP p.A k+cntL f.body)).drop (QP p.A k)=itL k 0 (-1) 0 (QP p.A k) f.body:=by
 obtain⟨i,j,_,L,h,m,q⟩:=Nl p.A 0 [] [] [] rfl rfl;refine⟨rfl,by unfold sheetOf;simpa using i,by unfold sheetOf;simpa using j,by unfold sheetOf;simp[h,m],fun k f v=>?_⟩;have:=q k f v;unfold sheetOf;simp only[h,z0i,z0p,z0q]at this⊢;exact this
mutual
theorem TN(nest seen:Int):∀(s:S){m:Int},Df nest seen s=some m->m=seen+ZU s
 | .mk id kind G name D x has args L M,m,h=>by
   simp only[Df]at h;split at h
   ·cases h
   split at h
   ·cases h
   cases hn:namesB G<;>rw[hn]at h
   ·cases h
   cases hf:ZM (.mk id kind G name D x has args L M)<;>rw[hf]at h
   ·cases h
   simp only[x7c]at h;split at h
   ·rename_i m1 h1;have h2:=KJ (nest+1) (seen+1) L h1;have h3:=KJ (nest+1) m1 M h;rw[ZU];omega
   ·cases h
theorem KJ(nest seen:Int):∀(l:List S){m:Int},UR nest seen l=some m->m=seen+cntL l
 | [],m,h=>by
   simp only[UR]at h;cases h;rw[cntL];simp
 | s::r,m,h=>by
   simp only[UR]at h;split at h
   ·cases h
   split at h
   ·rename_i m1 h1;have h2:=TN nest seen s h1;have h3:=KJ nest m1 r h;rw[cntL];omega
   ·cases h
end
theorem Gb:∀(l:List Pr){seen m:Int},seen<=200->XL seen l=some m->m=seen+cntP l/\m<=200
 |[],seen,m,h0,h=>by rw[XL]at h;cases h;simp[cntP];exact h0
 | f::r,seen,m,h0,h=>by
   rw[XL]at h;cases j:DJ f<;>rw[j]at h
   .cases h
   simp only[x7c]at h;split at h
   .rename_i v i;have k:=KJ 1 seen f.body i;have p:=J4 1 seen f.body h0 i;have q:=Gb r (by omega) h;rw[cntP];omega
   .cases h
def WO{p:Pg}(h:KR p=true):p.B.length<=16/\p.A.length<=16/\cntP p.A<=200:=by
 unfold KR at h;simp only[x7i,x8l]at h;obtain⟨⟨⟨k,l⟩,_⟩,i⟩:=h;cases j:XL 0 p.A with
 |none=>rw[j]at i;cases i
 | some m=>
   have:=Gb p.A (by decide) j;omega
def Ru{p:Pg}(h:KR p=true){f:Pr}(i:f∈p.A):DJ f=true:=by
 unfold KR at h;simp only[x7i]at h;have k:=h.2;have key:∀(l:List Pr)(seen:Int),(XL seen l).isSome=true->∀f∈l,DJ f=true:=fun l=>by
  induction l with
  |nil=>intro _ _ f i;cases i
  | cons g r m=>
    intro seen h f i;rw[XL]at h;cases j:DJ g<;>rw[j]at h
    .cases h
    simp only[x7c]at h;split at h
    .rename_i v q;rcases x7f.1 i with rfl|i
     .exact j
     .exact m _ h f i
    .cases h
 exact key _ _ k f i
def FK(p:Pg)(f:Pr)(name:Str):Int:=
 match f.C.find? (fun a=>a.name==name)with
 |some a=>bif a.ref then 3 else 2
 |none=>bif f.F.any (fun s=>name==s)then 4 else bif p.B.any (fun s=>name==s)then 1 else 0
def Xz{l:List α}{p:α->Bool}{j:Nat}(i:j<l.length)(h:p l[j]=false):(l.drop (j+1)).find? p=(l.drop j).find? p:=by
 rw[QG i,z2y,h]
def BJ{l:List α}{p:α->Bool}{j:Nat}(i:j<l.length)(h:p l[j]=true):(l.drop j).find? p=some l[j]:=by
 rw[QG i,z2y,h]
def BU{l:List α}{p:α->Bool}{j:Nat}(h:l.length<=j):(l.drop j).find? p=none:=by
 rw[x7e h];rfl
def H7(p:Pg)(f:Pr)(name:Str):SpecP prog 68 [.agg p.cells,.agg f.cells,.str name] (fun r=>r=.int .i64 (FK p f name)):=by
 refine sB Bl func68 rfl call68 ?_;conv=>whnf
 repeat' (refine iM fun _=>?_;conv=>whnf)
 have q:(f.C.map fun a=>AV.agg a.cells).length=f.C.length:=x7z _;refine LoopK.inv QV (fun j:Nat=>⟨[(2,.p (.str name)),(3,.p (.ip p.cells)),(4,.p (.ip f.cells)),(10,.p (.sl (f.C.map fun a=>.agg a.cells))),(11,.p (.int .i64 (f.C.map fun a=>AV.agg a.cells).length)),(12,.j j)],[]⟩) (fun j=>j<=f.C.length/\(f.C.drop j).find? (fun a=>a.name==name)=f.C.find? (fun a=>a.name==name)) (fun j=>f.C.length-j) 0 (Le.of_eq rfl) ⟨x7p _,rfl⟩ ?_;rintro j ⟨l,h⟩;conv=>whnf
 repeat' (first|((first|refine cP (QX _ _) ?_|refine x7g rfl ?_|(refine iA fun _=>?_)|refine wI ?_);conv=>whnf)|(apply bD<;>intro _<;>first|omega|conv=>whnf)|(apply bB<;>intro _<;>conv=>whnf))
 all_goals try have m:j<f.C.length:=by omega
 all_goals first
  | (exfalso
     have k:((f.C[j]'(by omega)).name==name)=true:=by assumption
     have i:((f.C[j]'(by omega)).name==name)=false:=by assumption
     rw[k]at i;cases i)
  | (have e:=BJ (p:=fun a:Param=>a.name==name) (by omega) (by assumption)
     rw[h]at e;exact RetK.int (by unfold FK;rw[e];simp[*]))
  |(refine⟨j+1,⟨by omega,by rw[<-h,Xz (p:=fun a:Param=>a.name==name) (by omega) (by assumption)]⟩,by omega,Le.of_eq rfl⟩)
  | (have e:f.C.find? (fun a=>a.name==name)=none:=by rw[<-h,BU (by omega)]
     exact RetK.int (by unfold FK;rw[e];simp[*]))
def mainS:Str:=[109,97,105,110]
def knownB(p:Pg)(f:Pr)(A:List Str)(t:S):Bool:=(XF t).all (fun n=> !(FK p f n==0))&&(decide (t.kind≠4)||(!(t.D==mainS)&&A.any fun s=>t.D==s))
def Rt(p:Pg)(f:Pr)(A:List Str)(t:S)(ha:t.args.length<=21000):SpecP prog 151 [.agg p.cells,.agg f.cells,eStrs A,.agg t.cells] (fun r=>r=.bool (knownB p f A t)):=by
 refine sB Ha func151 rfl call151 ?_;conv=>whnf
 repeat' ((first|(refine iM fun _=>?_)|refine cP (G3 _ ha) ?_);conv=>whnf)
 have m:((XF t).map AV.str).length=(XF t).length:=x7z _;refine LoopK.inv QV (fun j:Nat=>⟨[(2,.p (eStrs A)),(4,.p (.ip p.cells)),(5,.p (.ip f.cells)),(7,.p (.ip t.cells)),(12,.p (eStrs (XF t))),(13,.p (.int .i64 ((XF t).map AV.str).length)),(14,.j j)],[]⟩) (fun j=>j<=(XF t).length/\((XF t).drop j).all (fun n=> !(FK p f n==0))=(XF t).all (fun n=> !(FK p f n==0))) (fun j=>(XF t).length-j) 0 (Le.of_eq rfl) ⟨x7p _,rfl⟩ ?_;rintro j ⟨k,h⟩;conv=>whnf
 repeat' (first|((first|refine cP (H7 _ _ _) ?_|refine cP (QX _ _) ?_|(refine iA fun _=>?_)|refine wI ?_);conv=>whnf)|(apply bD<;>intro _<;>first|omega|conv=>whnf)|(apply bE<;>intro _<;>first|omega|conv=>whnf)|(apply bN<;>intro _<;>conv=>whnf))
 .exact RetK.ff (by
   have e:=Kg (p:=fun n=> !(FK p f n==0)) (l:=XF t) (j:=j) (by omega) (by simp;assumption);rw[knownB,<-h,e,Bool.false_and])
 .exact ⟨j+1,⟨by omega,by rw[<-h,U5 (p:=fun n=> !(FK p f n==0)) (by omega) (by simp;assumption)]⟩,by omega,Le.of_eq rfl⟩
 all_goals
  have e:(XF t).all (fun n=> !(FK p f n==0))=true:=by rw[<-h,U4 (by omega)]
 .exact RetK.ff (by
   have i:(t.D==mainS)=true:=by assumption
   rw[knownB,e,i];simp[*])
 .exact RetK.bool (by
   have i:(t.D==mainS)=false:=by assumption
   rw[knownB,e,i];simp[*])
 .exact RetK.tt (by rw[knownB,e];simp[*])
end Go.Ab
