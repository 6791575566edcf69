/- LAW: in a run of main alone, without calls, whoever gave last what a statement takes is one from whom it has it. -/
import Derived.Test.YtonbdgcjnecapaaGreatRchR11
import Derived.Test.YtonbdgcjnecapaaGreatRchR15
import Derived.Test.YtonbdgcjnecapaaGreatRchR19
import Derived.Test.YtonbdgcjnecapaaGreatRchR22
import Derived.Test.YtonbdgcjnecapaaGreatRchR24
import Derived.Test.YtonbdgcjnecapaaGreatRchR26
set_option linter.all false
set_option maxRecDepth 100000
set_option maxHeartbeats 16000000
open List (map_take)
namespace Go.Ab
open Go.Proofs.Tryz
open Go.Proofs
variable {a:Int}{v:Str}
def Xp(D:Int->List Str)(v:Str)(l:List Int):Int:=l.foldl (fun a f=>bif inS (D f) v then f else a) 0
def Gj(D:Int->List Str)(v:Str)(l:List Int)(f:Int):Xp D v (l++[f])=bif inS (D f) v then f else Xp D v l:=by
 unfold Xp;rw[z2h];rfl
def OJ(l:List Fl)(a c:Int)(v:Str):Bool:=l.any fun s=>decide (s.src=a)&&(decide (s.dst=c)&&(s.var==v))
section
variable {p:Pg}{k:Nat}{f:Pr}(hc:chkB p=true)(hk:p.A[k]? = some f)
include hc hk
def GoV(p:Pg)(k:Nat)(f:Pr)(v:Str)(a x:Int):Prop:=
 (v∈UE p k f (ixI p k f a).toNat/\plP p k f a/\(a=x\/(v∉UE p k f (ixI p k f x).toNat/\∃g,(atN (UE p k f) (cntL f.body+2) v)[g]?=some (ixI p k f a).toNat/\q4i (cntL f.body+2) (YT (newWay p k f) f) (atN (UE p k f) (cntL f.body+2) v) g (ixI p k f x))))\/
 (a=0/\v∉UE p k f 0/\Rch (nR p k f (dfB p (QK p).Q) v) 0 (ixI p k f x)/\GG p k f (dfB p (QK p).Q) v (ixI p k f x)=true)
omit hc hk in
theorem OU(v:Str):GoV p k f v 0 0:=by
 by_cases h:v∈UE p k f 0
 ·exact .inl ⟨by rw[Fg];exact h,.inl rfl,.inl rfl⟩
 ·refine .inr ⟨rfl,h,by rw[Fg];exact .refl,?_⟩;rw[Fg];unfold GG;rw[show decide ((0:Int)=((cntL f.body+2:Nat):Int)-1)=false from x9m (by omega)];rfl
theorem q3z{x y:Int}(h:GoV p k f v a x)(c:wR p k f x y):(v∈UE p k f (ixI p k f a).toNat/\plP p k f a/\∃g,(atN (UE p k f) (cntL f.body+2) v)[g]?=some (ixI p k f a).toNat/\q4i (cntL f.body+2) (YT (newWay p k f) f) (atN (UE p k f) (cntL f.body+2) v) g (ixI p k f y))\/
  (a=0/\v∉UE p k f 0/\Rch (nR p k f (dfB p (QK p).Q) v) 0 (ixI p k f y)):=by
 obtain⟨u,l,m,i⟩:=q8r hc hk v;have z:=x1k hc hk c;obtain⟨d,w⟩:=Aj hc hk z;have e:=WS d;have B:(((ixI p k f x).toNat:Nat):Int)=ixI p k f x:=z0f e.1;have n:=(TY hc hk d w).2 z;rcases h with⟨o,r,j⟩|⟨o,r,j,q⟩
 ·refine .inl ⟨o,r,?_⟩;rcases j with rfl|⟨j,g,q,A⟩
  ·obtain⟨g,t,s⟩:=List.getElem_of_mem ((i (ixI p k f a).toNat).2 ⟨by omega,o⟩);have b:(atN (UE p k f) (cntL f.body+2) v)[g]?=some (ixI p k f a).toNat:=by rw[x7x t,s]
   exact⟨g,b,q4o u l m b (by rw[B];exact n) (WS w)⟩
  ·exact⟨g,q,q8a l m (x7h.1 q).1 A e (fun h=>j ((i _).1 h).2) n (WS w)⟩
 ·exact .inr ⟨o,r,.tail j (q6y hc hk c q)⟩
theorem q5b{x:Int}{t:S}(w:t∈flL f.body)(d:Rch (wR p k f) 0 t.id)(h:GoV p k f v a x)(A:wR p k f x t.id):GoV p k f v (bif inS (WJ p t.id) v then t.id else a) t.id:=by
 obtain⟨s,z,b,B⟩:=AO hc hk w;cases o:inS (WJ p t.id) v with
 | true=>
   rw[x7c];exact .inl ⟨q5d hc hk w d (UN.1 o),s,.inl rfl⟩
 | false=>
   rw[x7o];have i:v∉WJ p t.id:=fun h=>by rw[UN.2 h]at o;cases o
   have q:v∉UE p k f (ixI p k f t.id).toNat:=fun h=>by
    rcases q9n hc hk (by omega) h with⟨c,_⟩|⟨_,_,_,r⟩
    ·exact b c
    ·rw[<-z]at r;exact i r
   rcases q3z hc hk h A with⟨l,m,n⟩|⟨l,m,n⟩
   ·exact .inl ⟨l,m,.inr ⟨q,n⟩⟩
   ·refine .inr ⟨l,m,n,?_⟩;cases e:GG p k f (dfB p (QK p).Q) v (ixI p k f t.id)with
    |true=>rfl
    | false=>
      exfalso;obtain⟨u,g,j,y⟩:=q0c hc hk s (by omega) e;rw[<-j,<-(Li hc hk g).1,j]at y;exact i y
theorem q9r{x:Int}{t:S}(i:t∈flL f.body)(d:Rch (wR p k f) 0 t.id)(h:GoV p k f v a x)(e:wR p k f x t.id)(r:v∈JA p t.id):OJ (YI p k f) a t.id v=true\/(a=0/\FK p f v=4):=by
 obtain⟨w,C,D,E⟩:=AO hc hk i;have q:=q7g hc hk i d r;have y:(((ixI p k f t.id).toNat:Nat):Int)=ixI p k f t.id:=z0f (WS w).1;rcases q3z hc hk h e with⟨s,j,g,l,z⟩|⟨s,j,l⟩
 ·refine .inl ?_;have B:=WS j;have ha:(((ixI p k f a).toNat:Nat):Int)=ixI p k f a:=z0f B.1;have u:=(Oo hc hk (a:=(ixI p k f a).toNat) (c:=(ixI p k f t.id).toNat) (by omega) (by omega)).2 ⟨q,g,l,by rw[y];exact z⟩;rw[ha,y,BP j,BP w]at u;exact x8e.2 ⟨_,u,by simp⟩
 ·refine .inr ⟨s,?_⟩;refine z0c fun b=>?_;refine j ?_;unfold UE SJ;rw[if_pos rfl];refine ZQ.2 ?_;rcases q2j hc hk i r b with m|o
  ·refine x8t _ ?_;have n:k<p.A.length:=(x7h.1 hk).1;rw[<-(UF hc).fixI];unfold rdI;rw[D9 n,UU hk,(UF hc).N];refine⟨m,(BB hc hk).2 ⟨_,l,q9s hc hk i ?_⟩⟩;rw[<-(Li hc hk i).2];exact r
  ·exact x8s _ o
omit hc hk in
theorem TV:∀(l:List Int)(a:Int),pathL (wR p k f) a l->Rch (wR p k f) a (lastD a l)
 |[],_,_=>.refl
 | c::r,a,h=>by
   rw[Gu];exact Rch.head h.1 (TV r c h.2)
theorem EY{l:List Int}(m:pathL (wR p k f) 0 l)(i:∀e∈l,0<e){j:Nat}(o:j<l.length):∃t∈flL f.body,t.id=l[j]/\Rch (wR p k f) 0 l[j]:=by
 have n:=Dw m o;have q:pathL (wR p k f) 0 (l.take j):=by
  rw[<-z2z j l]at m;exact J1 _ _ m
 have r:Rch (wR p k f) 0 l[j]:=.tail (TV _ _ q) n;have h:=(Aj hc hk (x1k hc hk n)).2;have x:=i _ (x7l o);have s:l[j]∈(flL f.body).map S.id:=by
  rw[Ry (QY hc).1 hk];rcases h with h|h|h
  ·omega
  ·omega
  ·exact Tq h.1 h.2
 obtain⟨t,w,u⟩:=x7d.1 s;exact⟨t,w,u,r⟩
theorem AN{l:List Int}(n:pathL (wR p k f) 0 l)(i:∀e∈l,0<e)(v:Str):∀j,j<=l.length->GoV p k f v (Xp (WJ p) v (l.take j)) (lastD 0 (l.take j))
 | 0,_=>by
   rw[List.take_zero];exact OU v
 | j+1,h=>by
   have m:j<l.length:=by omega
   obtain⟨t,u,q,r⟩:=EY hc hk n i m;have s:=AN n i v j (by omega);have o:=Dw n m;rw[x7r m,Gj,Gy,<-q];rw[<-q]at o r;exact q5b hc hk u r s o
theorem q1b{l:List Int}(i:pathL (wR p k f) 0 l)(h:∀e∈l,0<e){j:Nat}(n:j<l.length)(q:v∈JA p l[j]):OJ (YI p k f) (Xp (WJ p) v (l.take j)) l[j] v=true\/(Xp (WJ p) v (l.take j)=0/\FK p f v=4):=by
 obtain⟨t,u,s,o⟩:=EY hc hk i h n;have r:=AN hc hk i h v j (by omega);have m:=Dw i n;rw[<-s]at m o q⊢;exact q9r hc hk u o r m q
end
def q6i{p q:Pg}{g:Pr}(F:OnlyF p q g)(tape:List Int){fuel:Int}(z:0<=fuel){n:Nat}{M:Mc}(c:LS q tape (Xf q 0) fuel n (GP q)=.fin M):(∀e∈M.trace,1<=e.1/\e.1<=cntP q.A)/\
  ∀(i:Nat)(h:i<M.trace.length)(v:Str),v∈JA q M.trace[i].1->OJ (YE q mainS) (Xp (WJ q) v ((M.trace.map Prod.fst).take i)) M.trace[i].1 v=true\/(Xp (WJ q) v ((M.trace.map Prod.fst).take i)=0/\SS q mainS v=4):=by
 have E:=EU F.chk F.A F.nocall tape z c;have D:=(q1d F.chk tape (Xf q 0) z c).live;have d:∀e∈M.trace,1<=e.1/\e.1<=cntP q.A:=fun e l=>by
  obtain⟨k,N,t,m,C,O,_⟩:=D e l;have P:=ZS (QY F.chk).1 m C;obtain⟨_,_,_,b,J⟩:=QU q;obtain⟨_,_,G,_⟩:=J _ _ m;omega
 refine⟨d,fun i h v K=>?_⟩;have H:(M.trace.map Prod.fst).length=M.trace.length:=x7z _;have l:(M.trace.map Prod.fst)[i]'(by omega)=M.trace[i].1:=z1h _;have m:=q1b F.chk F.at0 E.path (fun e l=>by
  obtain⟨y,L,rfl⟩:=x7d.1 l;have:=(d y L).1;omega) (j:=i) (by omega) (v:=v) (by rw[l];exact K)
 rw[l]at m;obtain⟨B,x,r,w,_,I,o⟩:=L0 F.way;have s:SS q mainS v=FK q g v:=by
  have u:(0:Nat)=B:=by
   have:(newWay q 0 g).j=(newWay q B x).j:=by rw[w]
   exact this
  subst u;obtain rfl:g=x:=by have:=F.at0;rw[r]at this;exact(z0m this).symm
  unfold SS;rw[(QY F.chk).1,x7c,o]
 rw[Pe F.chk F.at0 F.way,s];exact m
def SW{p:Pg}(i:Fit p)(n:Str):(YE p n).length<=1000000000:=by
 unfold YE;split
 .rename_i h;exact Xu i h.1 (W2 (Rb h.2))
 .simp
def Mz:Mc:=⟨[],[],0,0,0,[],[]⟩
def x7q:Sub (.agg [.int .i64 0,.int .i64 0,.int .i64 0,.nils,.nils]) (q8h Mz):=
 Sub.agg (.cons (Sub.refl _) (.cons (Sub.refl _) (.cons (Sub.refl _) (.cons Sub.nils (.cons Sub.nils .nil)))))
def x6o{H:Heap}{k:Int}{R:AV->Prop}(h:R (.tup [q8h Mz,.int .i64 k])):RetK H (.p (.tup [.agg [.int .i64 0,.int .i64 0,.int .i64 0,.nils,.nils],.int .i64 k])) R:=
 ⟨_,.p (Sub.tup (.cons x7q (.cons (Sub.refl _) .nil))),h⟩
def q2t{H:Heap}{M:Mc}{R:AV->Prop}{i m:TypeId}(n:getH H 5=some (.own i 1 (M.out.map (.int .i64))))(o:getH H 6=some (.own m 2 (M.trace.map evA)))(q:R (.tup [q8h M,.int .i64 0])):
  RetK H (.tup [.agg [.p (.int .i64 M.fin),.p (.int .i64 M.steps),.p (.int .i64 M.reads),.hd 5 0 M.out.length,.hd 6 0 M.trace.length],.p (.int .i64 0)]) R:=
 ⟨_,.tup (cs:=[q8h M,.int .i64 0]) rfl (fun j l c h hc=>by
   match j,h,hc with
   | 0,h,hc=>
     cases h;cases hc;refine .agg rfl fun j l c h hc=>?_
     match j,h,hc with
     |0,h,hc=>cases h;cases hc;exact .p (Sub.refl _)
     |1,h,hc=>cases h;cases hc;exact .p (Sub.refl _)
     |2,h,hc=>cases h;cases hc;exact .p (Sub.refl _)
     |3,h,hc=>cases h;cases hc;exact .hd n (by rw[x7z])
     |4,h,hc=>cases h;cases hc;exact .hd o (by rw[x7z])
     |j+5,h,_=>cases h
   |1,h,hc=>cases h;cases hc;exact .p (Sub.refl _)
   |j+2,h,_=>cases h),q⟩
def gSt(p:Pg)(tape watch:List Int)(fuel:Int)(j:Nat)(bs:List Nat):St:=⟨[(2,.j fuel),(8,.ptr 1 0),(10,.ptr 0 0),(34,.p (.int .i64 (p.B.map AV.str).length)),(35,.j j)],
 [(2500,.ext (.cells 2 (bs.map fun b=>(b,.int .i64 0)))),(0,.obj 145 [.p (.ip (sheetOf p).cells),.hd 2 0 j,.p (QB tape),.p (QB watch),.hd 3 0 0,.hd 4 0 0,.j 0,.j 0,.j 0,.hd 5 0 0,.hd 6 0 0]),(2,.own 146 1 (bs.map cpA)),(3,.own 194 1 []),(4,.own 2 1 []),(5,.own 2 1 []),(6,.own 76 2 []),(1,rO)]⟩
structure GIx where
 j:Nat
 bs:List Nat
def x0a(p:Pg)(e:Fit p)(tape watch:List Int)(C:tape.length<=10000000)(fuel:Int):SpecP prog 38 [.agg p.cells,QB tape,.int .i64 fuel,QB watch] (fun r=>(chkB p=true/\0<=fuel/\fuel<=1000000->x5u p tape watch fuel r)/\(¬(chkB p=true/\0<=fuel/\fuel<=1000000)->r=.tup [q8h Mz,.int .i64 1])):=by
 refine sB Vr func38 rfl call38 ?_;conv=>whnf
 have D:=Uu p e;by_cases t:chkB p=true/\0<=fuel/\fuel<=1000000
 .obtain ⟨hc,w,q⟩:=t;rw[hc]at D;obtain⟨hg,hpl,V⟩:=XQ hc;have G:=HW p (by omega) (by omega);have z:=XM (sheetOf p) mainS;obtain⟨m1,N,m3⟩:=Gh hc;have u:=TE hc w;rw[show(sheetOf p).p=p from(QU p).1,m1]at z;have Z:=(JB (QY hc).1).pr _ (x7t N);have Y:(p.B.map AV.str).length=p.B.length:=x7z _
  skip
  refine q3s ?_;refine ScopeK.inv QV (c:=q8f) (RIx.st p tape watch fuel) RIx.lab (fun i=>Qn p fuel i.c/\i.bok/\∃n,LS p tape watch fuel n (GP p)=i.c) (fun i=>cfμ fuel i.c) EB ?_ ?_ ?_
  .rintro ⟨c,F,at_,bs,vs,it⟩ _;cases c<;>rfl
  .refine (show ∀(K:Exit->St->Prop),(∀l s',(∃i:RIx,i.lab=l/\(Qn p fuel i.c/\i.bok/\∃n,LS p tape watch fuel n (GP p)=i.c)/\Le Tryz.f38.ntmps s' (i.st p tape watch fuel))->K (.goto l) s')->W prog tab Tryz.f38.ntmps Vr q8f K _ from ?_) _ (fun _ _ h=>h);intro K T;conv=>whnf
   repeat' (first|((first|(refine iM fun _=>?_)|refine x7g rfl ?_|refine cP D ?_|refine cP G ?_);conv=>whnf)|(apply bD<;>intro _<;>first|omega|conv=>whnf)|(apply bN<;>intro _<;>conv=>whnf))
   all_goals try (exfalso;omega)
   all_goals try contradiction
   refine LoopK.inv QV (fun i:GIx=>gSt p tape watch fuel i.j i.bs) (fun i=>i.j<=p.B.length/\i.bs.length=i.j) (fun i=>p.B.length-i.j) ⟨0,[]⟩ ?_ ⟨x7p _,rfl⟩ ?_
   .refine Le.trans (Le.mk (H':=(gSt p tape watch fuel 0 []).H.tail) [(2,.own 146 1 []),(3,.own 194 1 []),(4,.own 2 1 []),(5,.own 2 1 []),(6,.own 76 2 [])] (by intro c hc;simp only[x7f,z2m,or_false]at hc;rcases hc with rfl|rfl|rfl|rfl|rfl<;>exact⟨rfl,rfl⟩) (by decide) (by show(List.map _ _).Nodup;simp[gSt]) (sl':=(gSt p tape watch fuel 0 []).sl)
     (.r (.r (.r (.r (.r .nil)))))
     (.cons rfl (.obj (.r (.cons (.nil (.head _)) (.r (.r (.cons (.nil (.tail _ (.head _))) (.cons (.nil (.tail _ (.tail _ (.head _)))) (.r (.r (.r (.cons (.nil (.tail _ (.tail _ (.tail _ (.head _))))) (.cons (.nil (.tail _ (.tail _ (.tail _ (.tail _ (.head _)))))) .nil)))))))))))) (.new (by simp) (.new (by simp) (.new (by simp) (.new (by simp) (.new (by simp) (.cons rfl (.refl _) .nil)))))))) (CG 2500 2 (by rfl) (by decide))
   rintro⟨j,bs⟩ ⟨m,o⟩;simp only at m o⊢;have U:(bs.map cpA).length=bs.length:=x7z _;rcases x7m j p.B.length with Q|Q
   .unfold gSt;conv=>whnf
    repeat' (first|((first|refine x7g rfl ?_|refine aD ?_|refine bP ?_|refine wI ?_|refine z0w (n:=j) (by omega) rfl (by show(j+1)*8<=140737488355328;omega) (by show j+1<=9223372036854775807;omega) (fun x hx=>by rcases x7y.1 hx with rfl;exact⟨rfl,rfl⟩) ?_);conv=>whnf)|(apply bD<;>intro _<;>first|omega|conv=>whnf)|(refine X6 QV 7 2500 ?_;conv=>whnf)|(refine⟨⟨rfl,rfl⟩,fun b L=>?_⟩;conv=>whnf))
    all_goals first
     |(exfalso;omega)
     |exact⟨⟨j+1,bs++[b]⟩,⟨Q,by simp[o]⟩,by simp only;omega,Le.of_eq (by simp only[x7n];rfl)⟩
   .obtain rfl:j=p.B.length:=by omega
    have J:OkM p bs (M00 p):=⟨by simp[M00,o],(fun f e=>by cases e),by simp[M00],x7p _,fun f e=>by cases e⟩;have s:=FQ p tape watch bs [] (M00 p) J (x7p _) (mainN p) (prA p (mainN p)) N (Mo hc N) (by omega) (by omega) [] (x7p _) (fun v hv=>by cases hv) 0;have hq:mHq p tape watch bs [] (M00 p) (UO bs [])=[(1000,.obj 145 [.p (.ip (sheetOf p).cells),.hd 1001 0 p.B.length,.p (QB tape),.p (QB watch),.hd 2001 0 0,.hd 2002 0 0,.j 0,.j 0,.j 0,.hd 2003 0 0,.hd 2004 0 0]),(1001,.own 146 1 (bs.map cpA)),(2001,.own 194 1 []),(2002,.own 2 1 []),
      (2003,.own 2 1 []),(2004,.own 76 2 []),(2500,.ext (.cells 2 (bs.map fun b=>(b,.int .i64 0)))),(2005,.own 146 1 [])]:=by
     unfold mHq mH mO M00;simp only;rw[q1q o,A8 o];rfl
    rw[hq]at s;unfold gSt;conv=>whnf
    repeat' (first|(refine cP z ?_;conv=>whnf)|(apply bD<;>intro _<;>first|omega|conv=>whnf))
    all_goals try (exfalso;omega)
    refine CallK.le ?_;refine CallK.nil 8 146 1 rfl (.cons rfl (.cons rfl (.row (.cons rfl .nil)))) ?_;refine cJ [(1000,0),(1001,2),(2001,3),(2002,4),(2003,5),(2004,6),(2500,2500),(2005,8)] 0 s ?_;rintro l' H' ⟨nb,rfl,rfl,hnb⟩;conv=>whnf
    have d:(bs++nb).length=(GK p (mainN p) (prA p (mainN p)) [] 0 (M00 p)).mem.length:=by
     unfold GK M00;simp only[x7u,x9w];omega
    refine⟨⟨[(2,.j fuel),(8,.ptr 1 0),(10,.ptr 0 0),(11,.ptr 7 0),(12,.j 0),(54,.j (Wh p (mainN p) (prA p (mainN p))))],rH p tape watch (bs++nb) [] (GK p (mainN p) (prA p (mainN p)) [] 0 (M00 p)) x5d⟩,?_,?_⟩
    .have R:=M6 p hc tape watch C fuel q 0 (bs++nb) [] x5d _ _ u d K (fun i s' m o y=>T i.lab s' ⟨i,rfl,⟨m▸(Ft hc tape watch u (fun _ h=>by cases h)).1,o,1,m.symm⟩,y⟩);conv=>whnf
     conv at R=>whnf
     exact R
    .exact Le.mk [] (by simp) (by simp) (by show(List.map _ _).Nodup;simp[rH]) (.r (.r (.r (.r (.r (.r .nil))))))
      (.cons rfl (.refl _) (.cons rfl (.refl _) (.cons rfl (.refl _) (.cons rfl (.refl _) (.cons rfl (.refl _) (.cons rfl (.refl _) (.cons rfl (.refl _) (.cons rfl (.refl _) (.cons rfl (.obj (.r (.r (.cons (.p Sub.nils) (.r (.r (.r (.r (.r (.cons (.p Sub.nils) (.cons (.p (Sub.ff rfl)) (.cons (.p Sub.nils) (.cons (.p Sub.nils) (.cons (.p Sub.nils) (.r (.r (.r (.r .nil)))))))))))))))))) .nil)))))))))
  .rintro ⟨c,F,at_,bs,vs,it⟩ ⟨I,L,n,E⟩;have A:=Ft hc tape watch (p:=p) (fuel:=fuel) (c:=c) I;cases c with
   | next a M=>
     refine M6 p hc tape watch C fuel q F bs vs it a M I L _ fun i s' m o y=>?_;obtain⟨O,P⟩:=A (fun _ h=>by cases h);exact⟨i,rfl,⟨m▸O,o,n+1,by rw[DV,E,m]⟩,m▸P,y⟩
   | back g M=>
     refine EV p hc tape watch fuel q g bs vs it at_ M I L _ (fun i s' m o y=>?_) fun M' m=>?_
     .obtain ⟨O,P⟩:=A (fun _ h=>by cases h);exact⟨i,rfl,⟨m▸O,o,n+1,by rw[DV,E,m]⟩,m▸P,y⟩
     .exact q2t rfl rfl ⟨fun _=>⟨n+1,M',by rw[DV,E,m],rfl⟩,fun h=>absurd ⟨hc,w,q⟩ h⟩
   | fin M=>
     refine q0s p tape watch fuel F at_ bs vs it M _ ?_;exact q2t rfl rfl ⟨fun _=>⟨n,M,E,rfl⟩,fun h=>absurd ⟨hc,w,q⟩ h⟩
 .skip
  skip
  refine q3s ?_;refine ScopeK.inv QV (c:=q8f) (fun i:Nat=>⟨[],[]⟩) (fun i=>0) (fun _=>False) (fun i=>0) EB (fun _ h=>h.elim) ?_ (fun _ h=>h.elim);cases hc:chkB p;all_goals
   rw[hc]at D t;conv=>whnf
   repeat' (first|((first|refine x7g rfl ?_|refine cP D ?_);conv=>whnf)|(apply bD<;>intro _<;>first|omega|conv=>whnf)|(apply bN<;>intro _<;>conv=>whnf))
   all_goals first
    |contradiction
    |exact x6o ⟨fun h=>absurd h t,fun _=>rfl⟩
    |exact absurd ⟨rfl,by omega,by omega⟩ t
def AR{l:List Fl}{c:Int}{j:Nat}(h:j<l.length):OJ (l.drop j) a c v=((decide (l[j].src=a)&&(decide (l[j].dst=c)&&(l[j].var==v)))||OJ (l.drop (j+1)) a c v):=by
 rw[x8b h];rfl
def DA(l:List Fl)(a c:Int)(v:Str):SpecP prog 42 [.sl (l.map Za),.int .i64 a,.int .i64 c,.str v] (fun r=>r=.bool (OJ l a c v)):=by
 refine sB GA func42 rfl call42 ?_;conv=>whnf
 have m:(l.map Za).length=l.length:=x7z _;repeat' (refine iM fun _=>?_;conv=>whnf)
 refine LoopK.inv QV (fun j:Nat=>⟨[(1,.j a),(2,.j c),(3,.p (.str v)),(11,.p (.sl (l.map Za))),(12,.p (.int .i64 (l.map Za).length)),(13,.j j)],[]⟩) (fun j=>j<=l.length/\OJ (l.drop j) a c v=OJ l a c v) (fun j=>l.length-j) 0 (Le.of_eq rfl) ⟨x7p _,rfl⟩ ?_;rintro j ⟨o,h⟩;rcases x7m j l.length with i|i
 .rw [AR i]at h;have n:(l.map Za)[j]?=some (.agg l[j].cells):=by rw[x7k,x7x i];rfl
  conv=>whnf
  repeat' (first|((first|refine x7g rfl ?_|(refine iA fun _=>?_)|refine wI ?_);conv=>whnf)|(apply bD<;>intro _<;>first|omega|conv=>whnf)|(apply bB<;>intro _<;>conv=>whnf))
  all_goals first
   |contradiction
   |exact RetK.tt (by rw[<-h];simp[*];done)
   |exact⟨j+1,⟨i,by rw[<-h];simp[*];done⟩,by omega,Le.of_eq rfl⟩
 .rw [x7e i]at h;conv=>whnf
  repeat' (apply bD<;>intro _<;>first|omega|conv=>whnf)
  all_goals first
   |contradiction
   |exact RetK.ff h.symm
def Im(T:Nat->List Str)(n:Nat):tkA T n n=(List.range n).map fun q=>eStrs (T q):=by unfold tkA;simp
def x1q(T:Nat->List Str){n k:Nat}(h:k<n):((List.range n).map fun q=>eStrs (T q))[k]?=some (eStrs (T k)):=by
 rw[x7k,z1p h];rfl
def x6a{D:Prop}{G R:Nat->Mc->Prop}(h:(∀m M,R m M->G m M)->D)(i:∀m M,R m M->G m M):D:=h i
def FG(p:Pg)(tape:List Int)(fuel:Int):SpecP prog 9 [.agg p.cells,QB tape,.int .i64 fuel] (fun r=>r=.tt):=by
 refine sB KA func9 rfl call9 ?_;conv=>whnf
 cases w:q2a p with
 | false=>
   have hno:¬gPg p<=20000:=by unfold q2a at w;simpa using w
   repeat' (first|((first|refine cP (UA _) ?_|refine cP ZE ?_);conv=>whnf)|(apply bE<;>intro _<;>first|omega|conv=>whnf))
   all_goals first
    |exact⟨_,.p (Sub.refl _),rfl⟩
    |(exfalso;simp_all;done)
 | true =>
   have hf:Fit p:=q9k w;have hfit:gPg p<=20000:=by unfold q2a at w;simpa using w
   have J:=MW p hf 40;have htm:(tape.map (AV.int .i64)).length=tape.length:=x7z _;by_cases D:Hq p 40=true/\0<=fuel/\fuel<=150/\tape.length<=100
   .obtain ⟨Z,Q,hf1,htl⟩:=D;rw[Z]at J;have hc:=I0 Z;obtain⟨q,g,F⟩:=C9 hf hc;have hS:=Zw true p F.copy F.pos F.raw.1 F.raw.2;rw[F.only]at hS;have hal:=(JB (QY F.chk).1).len;have hI:=Wa q 0 (by omega);have hR:SpecP prog 38 [.agg q.cells,QB tape,.int .i64 fuel,QB (Xf q 0)] (fun r=>x5u q tape (Xf q 0) fuel r):=(x0a q F.fit tape (Xf q 0) (by omega) fuel).mono fun r hr=>hr.1 ⟨F.chk,Q,by omega⟩;have O:=fun n M hn=>q6i F tape Q (n:=n) (M:=M) hn;have hcn:=(XQ F.chk).2.2;have hT:=Hh q (by omega);have K:=fun id=>SH q F.fit id;have P:=fun id=>SF q F.fit id;have B:=fun a v=>Jp (WJ q a) v;have hF:=TD q F.fit mainS;have C:=fun v=>Cy q mainS v;have o:=fun a c v=>DA (YE q mainS) a c v;have hLl:=SW F.fit mainS;obtain⟨n,hn⟩ : ∃n:Nat,n=cntP q.A+1:=⟨_,rfl⟩;apply x6a (R:=fun m M=>LS q tape (Xf q 0) fuel m (GP q)=.fin M)
    .intro key;repeat' (first|((first|(refine iM fun _=>?_)|refine cP (UA _) ?_|refine dA ?_|refine x7g rfl ?_|refine aR ?_|refine wI ?_|refine cP ZE ?_|refine cP J ?_|(refine CallK.pure hS (.cons (Sub.refl _) (.cons (by first|exact Sub.refl _|exact Sub.tt rfl) .nil)) ?_;rintro _ rfl)|refine cP hI ?_|(refine CallK.pure hR (.cons (Sub.refl _) (.cons (Sub.refl _) (.cons (Sub.refl _) (.cons (Sub.refl _) .nil)))) ?_;rintro _ ⟨m,M,s,rfl⟩)|refine cP hT ?_|refine z2b n (by omega) (by show 24*_<=140737488355328;omega) (by unfold maxLen;omega) ?_);conv=>whnf)|(apply bD<;>intro _<;>first|omega|conv=>whnf)|(apply bE<;>intro _<;>first|omega|conv=>whnf)|(apply bN<;>intro _<;>conv=>whnf)|(refine x7g ?_ ?_<;>conv=>whnf))
     all_goals try contradiction
     all_goals try (exfalso;omega)
     all_goals exact key _ _ s
    intro m M s;obtain⟨U,hlw⟩:=O m M s;generalize YE q mainS=L at*
    have htl2:(M.trace.map evA).length=M.trace.length:=x7z _;have N:=fun c (h:c<n)=>It (fun k=>WJ q (k:Nat)) h;have b:=fun c (h:c<n)=>It (fun k=>JA q (k:Nat)) h;refine LoopK.inv QV (fun j:Nat=>⟨[(7,.p (.ip q.cells)),(8,.p (.ip [.int .i64 M.fin,.int .i64 M.steps,.int .i64 M.reads,QB M.out,.sl (M.trace.map evA)])),(10,.hd 0 0 n),(11,.hd 1 0 n),(62,.j n),(63,.j j)],[(1,.own 22 1 (tkA (fun k=>JA q (k:Nat)) n j)),(0,.own 22 1 (tkA (fun k=>WJ q (k:Nat)) n j))]⟩) (fun j=>j<=n) (fun j=>n-j) 0 (Le.of_eq (by rw[Dc,Dc];rfl)) (x7p _) ?_;intro j hj;have lD:=Ir (fun k=>WJ q (k:Nat)) hj;have lU:=Ir (fun k=>JA q (k:Nat)) hj;rcases x7m j n with G|G
    .have eD:=Il (fun k=>WJ q (k:Nat)) G;have eU:=Il (fun k=>JA q (k:Nat)) G;have u:=K j;have t:=P j;have hDj:=N j G;have hUj:=b j G;generalize tkA (fun k=>WJ q (k:Nat)) n j=tD at*
     generalize tkA (fun k=>JA q (k:Nat)) n j=tU at*
     conv=>whnf
     repeat' (first|((first|refine dA ?_|refine x7g rfl ?_|refine wI ?_|refine x8p j rfl (by omega) ?_|refine cP u ?_|refine cP t ?_|refine z0d j 0 .nils (eStrs (WJ q j)) (by omega) eD (x7s 1) rfl ?_|refine z0d j 0 .nils (eStrs (JA q j)) (by omega) eU (x7s 1) rfl ?_);conv=>whnf)|(apply bD<;>intro _<;>first|omega|conv=>whnf))
     all_goals first
      |(exfalso;omega)
      |exact⟨j+1,G,by omega,Le.of_eq (by rw[<-hDj,<-hUj];rfl)⟩
    .obtain rfl:j=n:=by omega
     rw[Im,Im]at*
     have aD:=fun k (h:k<j)=>x1q (fun k=>WJ q (k:Nat)) h;have aU:=fun k (h:k<j)=>x1q (fun k=>JA q (k:Nat)) h;generalize((List.range j).map fun y=>eStrs (WJ q (y:Nat)))=tD at*
     generalize((List.range j).map fun y=>eStrs (JA q (y:Nat)))=tU at*
     conv=>whnf
     repeat' (first|((first|(refine iM fun _=>?_)|refine cP hF ?_);conv=>whnf)|(apply bD<;>intro _<;>first|omega|conv=>whnf))
     all_goals try (exfalso;omega)
     clear N b K P hR hI hS J hT s O;refine LoopK.inv QV (fun i:Nat=>⟨[(7,.p (.ip q.cells)),(8,.p (.ip [.int .i64 M.fin,.int .i64 M.steps,.int .i64 M.reads,QB M.out,.sl (M.trace.map evA)])),(10,.hd 0 0 j),(11,.hd 1 0 j),(13,.p (.sl (L.map Za))),(82,.p (.sl (M.trace.map evA))),(83,.p (.int .i64 (M.trace.map evA).length)),(84,.j i)],[(1,.own 22 1 tU),(0,.own 22 1 tD)]⟩) (fun i=>i<=M.trace.length) (fun i=>M.trace.length-i) 0 (Le.of_eq rfl) (x7p _) ?_;intro i hi;rcases x7m i M.trace.length with I|I
     .have hg:=U _ (x7l I);have l:=hlw i I;have eT:(M.trace.map evA)[i]?=some (evA M.trace[i]):=by rw[x7k,x7x I];rfl
      obtain⟨T,hT⟩ : ∃T,T=M.trace.take i:=⟨_,rfl⟩;have hTa:((M.trace.map evA).take i).drop 0=T.map evA:=by rw[z4z,hT,map_take]
      have hTl:T.length=i:=by rw[hT,x8q];omega
      have hTm:(T.map evA).length=T.length:=x7z _;have hTg:∀e∈T,1<=e.1/\e.1<=cntP q.A:=fun e he=>U e (z2i (hT▸he));rw[<-map_take,<-hT]at l;have t:=aU M.trace[i].1.toNat (by omega);rw[z0f (by omega)]at t;generalize M.trace[i]=e at*
      obtain⟨z,e2⟩:=e;simp only at hg l t;obtain⟨V,hV⟩ : ∃V,V=JA q z:=⟨_,rfl⟩;rw[<-hV]at l t;have hVm:(V.map AV.str).length=V.length:=x7z _;clear hT hV;have eT:(M.trace.map evA)[i]?=some (.agg [.int .i64 z,QB e2]):=eT;have hsz:∀x∈M.trace.map evA,x.cells.length=2:=fun x hx=>by obtain⟨y,_,rfl⟩:=x7d.1 hx;rfl
      generalize M.trace.map evA=tA at*
      conv=>whnf
      repeat' (first|((first|(refine iM fun _=>?_)|refine x7g rfl ?_|refine x8p z.toNat (by omega) (by omega) ?_|refine x9g z.toNat 0 _ (by omega) t ?_);conv=>whnf)|(apply bD<;>intro _<;>first|omega|conv=>whnf)|(refine IdxK.at (k:=i) rfl eT rfl ?_;conv=>whnf))
      all_goals try (exfalso;omega)
      refine LoopK.inv QV (fun a:Nat=>⟨[(7,.p (.ip q.cells)),(8,.p (.ip [.int .i64 M.fin,.int .i64 M.steps,.int .i64 M.reads,QB M.out,.sl tA])),(10,.hd 0 0 j),(11,.hd 1 0 j),(13,.p (.sl (L.map Za))),(14,.j i),(15,.p (.ip [.int .i64 z,QB e2])),(82,.p (.sl tA)),(83,.j tA.length),(84,.j i),(103,.p (eStrs V)),(104,.p (.int .i64 (V.map AV.str).length)),(105,.j a)],[(1,.own 22 1 tU),(0,.own 22 1 tD)]⟩) (fun a=>a<=V.length) (fun a=>V.length-a) 0 (Le.of_eq rfl) (x7p _) ?_;intro a ha;rcases x7m a V.length with Y|Y
      .have l:=l V[a] (x7l Y);have C:=C V[a];have o:=fun la=>o la z V[a];have B:=fun x=>B x V[a];conv=>whnf
       repeat' (first|((first|(refine iM fun _=>?_)|(refine iA fun _=>?_)|refine x7g hsz ?_|refine z3d 0 i rfl rfl (by omega) (by omega) ?_);conv=>whnf)|(apply bD<;>intro _<;>first|omega|conv=>whnf))
       all_goals try (exfalso;omega)
       rw[hTa];refine LoopK.inv QV (fun m:Nat=>⟨[(7,.p (.ip q.cells)),(8,.p (.ip [.int .i64 M.fin,.int .i64 M.steps,.int .i64 M.reads,QB M.out,.sl tA])),(10,.hd 0 0 j),(11,.hd 1 0 j),(13,.p (.sl (L.map Za))),(14,.j i),(15,.p (.ip [.int .i64 z,QB e2])),(17,.p (.str V[a])),(18,.j (Xp (WJ q) V[a] ((T.map Prod.fst).take m))),(82,.p (.sl tA)),(83,.j tA.length),(84,.j i),(103,.p (eStrs V)),(104,.p (.int .i64 (V.map AV.str).length)),(105,.j a),(112,.p (.sl (T.map evA))),(113,.p (.int .i64 (T.map evA).length)),(114,.j m)],[(1,.own 22 1 tU),(0,.own 22 1 tD)]⟩) (fun m=>m<=T.length) (fun m=>T.length-m) 0 (Le.of_eq (by rw[List.take_zero];rfl)) (x7p _) ?_;intro m hm;rcases x7m m T.length with H|H
       .have E:Xp (WJ q) V[a] ((T.map Prod.fst).take (m+1))=bif inS (WJ q T[m].1) V[a]then T[m].1 else Xp (WJ q) V[a] ((T.map Prod.fst).take m):=by
         rw[x7r (by rw[x7z];exact H),Gj,z1h]
        have hg1:=hTg _ (x7l H);have eM:(T.map evA)[m]?=some (evA T[m]):=by rw[x7k,x7x H];rfl
        have u:=aD T[m].1.toNat (by omega);rw[z0f (by omega)]at u;have d:=B T[m].1;generalize Xp (WJ q) V[a] ((T.map Prod.fst).take m)=cur at*
        generalize T[m]=f at*
        obtain⟨f1,f2⟩:=f;simp only at hg1 u d E;have eM:(T.map evA)[m]?=some (.agg [.int .i64 f1,QB f2]):=eM;generalize T.map evA=TA at*
        cases hd:inS (WJ q f1) V[a];all_goals
         rw[hd]at d E;conv=>whnf
         repeat' (first|((first|refine x7g rfl ?_|refine wI ?_|refine x8p f1.toNat (by omega) (by omega) ?_|refine x9g f1.toNat 0 _ (by omega) u ?_|refine cP d ?_);conv=>whnf)|(apply bD<;>intro _<;>first|omega|conv=>whnf)|(apply bB<;>intro _<;>conv=>whnf)|(refine IdxK.at (k:=m) rfl eM rfl ?_;conv=>whnf))
         all_goals first
          |(exfalso;omega)
          |contradiction
          |exact⟨m+1,H,by omega,Le.of_eq (by rw[E];rfl)⟩
       .rw [x7a (show(T.map Prod.fst).length<=m by rw[x7z];exact H)];generalize Xp (WJ q) V[a] (T.map Prod.fst)=la at*
        have o:=o la;generalize SS q mainS V[a]=kd at*
        cases hb:OJ L la z V[a]with
        | true=>
          rw[hb]at o;conv=>whnf
          repeat' (first|((first|refine wI ?_|refine cP o ?_);conv=>whnf)|(apply bD<;>intro _<;>first|omega|conv=>whnf)|(apply bN<;>intro _<;>conv=>whnf))
          all_goals first
           |(exfalso;omega)
           |contradiction
           |exact⟨a+1,Y,by omega,Le.of_eq rfl⟩
        | false=>
          rw[hb]at o l;rcases l with l|⟨rfl,rfl⟩
          .cases l
          .conv=>whnf
           repeat' (first|((first|refine wI ?_|refine cP o ?_|refine cP C ?_);conv=>whnf)|(apply bD<;>intro _<;>first|omega|conv=>whnf)|(apply bE<;>intro _<;>first|omega|conv=>whnf)|(apply bN<;>intro _<;>conv=>whnf))
           all_goals first
            |(exfalso;omega)
            |contradiction
            |exact⟨a+1,Y,by omega,Le.of_eq rfl⟩
      .conv=>whnf
       repeat' (first|(refine wI ?_;conv=>whnf)|(apply bD<;>intro _<;>first|omega|conv=>whnf))
       all_goals first
        |(exfalso;omega)
        |contradiction
        |exact⟨i+1,I,by omega,Le.of_eq rfl⟩
     .conv=>whnf
      repeat' (apply bD<;>intro _<;>first|omega|conv=>whnf)
      all_goals first
       |(exfalso;omega)
       |contradiction
       |exact⟨_,.p (Sub.refl _),rfl⟩
       |exact⟨_,.p (Lb rfl),rfl⟩
   .cases Z:Hq p 40;all_goals
     rw[Z]at J D;repeat' (first|((first|(refine iM fun _=>?_)|refine cP (UA _) ?_|refine cP ZE ?_|refine cP J ?_);conv=>whnf)|(apply bD<;>intro _<;>first|omega|conv=>whnf)|(apply bE<;>intro _<;>first|omega|conv=>whnf)|(apply bN<;>intro _<;>conv=>whnf))
     all_goals first
      |contradiction
      |exact⟨_,.p (Sub.refl _),rfl⟩
      |exact absurd ⟨rfl,by omega,by omega,by omega⟩ D
end Go.Ab
