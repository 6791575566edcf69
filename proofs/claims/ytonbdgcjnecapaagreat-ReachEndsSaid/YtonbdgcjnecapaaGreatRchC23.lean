/- LAW: what places give rises; how many flows there may be. -/
import Derived.Test.YtonbdgcjnecapaaGreatRchC4
import Derived.Test.YtonbdgcjnecapaaGreatRchC6
import Derived.Test.YtonbdgcjnecapaaGreatRchC17
import Derived.Test.YtonbdgcjnecapaaGreatRchC18
import Derived.Test.YtonbdgcjnecapaaGreatRchC21
import Derived.Test.YtonbdgcjnecapaaGreatRchC22
set_option linter.all false
set_option maxRecDepth 100000
set_option maxHeartbeats 16000000
open Nat (blt)
namespace Go.Ab
open Go.Proofs.Tryz
open Go.Proofs
variable {D I O U:List (List Str)}{G:Nat->List Str}{K:St->Prop}{N k:Nat}{P:Program}{T:Tab}{a:Int}{f:Pr}{info:Info}{net:List (List Int)}{o:List Str}{p:Pg}{s:St}{seen:List Bool}{todo:List Int}
theorem Uj{α β:Type}(f:α->List β)(k:Nat):∀l:List α,(∀x∈l,(f x).length<=k)->(l.flatMap f).length<=l.length*k
 |[],_=>by simp
 | x::r,h=>by
   have n:=h x x0k;have q:=Uj f k r fun y m=>h y (x0f _ m);rw[x1o,x0g,x1r,x3q];omega
def IT{l:List Str}(n:l.Nodup)(q:Str)(a:Nat):((l.map fun s=>(s,a)).filter fun x=>decide (x.1=q)).map Prod.snd=if q∈l then [a]else []:=by
 induction l with
 |nil=>rfl
 | cons x r u=>
   rw[x2u]at n;rw[x1j,x6s];by_cases h:x=q
   .subst h;rw[if_pos (by simp),x1j,u n.2,if_neg n.1,if_pos x0k]
   .rw [if_neg (by simpa using h),u n.2];by_cases m:q∈r
    .rw [if_pos m,if_pos (x0f _ m)]
    .rw [if_neg m,if_neg (by rw[x0p];rintro(t|t);exact h t.symm;exact m t)]
theorem Be{G:Nat->List Str}(m:∀a,(G a).Nodup)(l:Str):∀n,atN G n l=(List.range n).filter fun a=>decide (l∈G a)
 |0=>rfl
 | n+1=>by
   have q:=Be m l n;unfold atN at q⊢;rw[DB,x3k,x0c,q,IT (m n),x4c,x3k];congr 1;by_cases h:l∈G n
   .rw [if_pos h];simp[h]
   .rw [if_neg h];simp[h]
def Ip(l:List (Str×Nat)):((mapG l).map Prod.fst).length<=l.length:=by
 have key:∀l:List (Str×Nat),((mapG l.reverse).map Prod.fst).length<=l.length:=fun l=>by
  induction l with
  |nil=>exact x0o _
  | cons x r h=>
    rw[x6b,GK];unfold D0;rw[Qr];split
    .rw [x1r];omega
    .simp only[x0g,x1r,x4s];omega
 have:=key l.reverse
 rwa[x5i,List.length_reverse]at this
def Im(l:List (Str×Nat)){k:Str}(h:k∈(mapG l).map Prod.fst):∃a,(k,a)∈l:=by
 have key:∀l:List (Str×Nat),k∈(mapG l.reverse).map Prod.fst->∃a,(k,a)∈l:=fun l=>by
  induction l with
  |nil=>intro h;cases h
  | cons x r n=>
    rw[x6b,GK];unfold D0;rw[Qr];intro h;have:k∈(mapG r.reverse).map Prod.fst\/k=x.1:=by
     split at h
     .exact .inl h
     .rcases x0r.1 h with h|h
      .exact .inl h
      .exact .inr (x0b.1 h)
    rcases this with h|h
    .obtain ⟨a,m⟩:=n h;exact⟨a,x0f _ m⟩
    .exact ⟨x.2,by rw[h];exact x0k⟩
 obtain⟨a,m⟩:=key l.reverse (by rwa[x5i]);exact⟨a,List.mem_reverse.1 m⟩
def Av{n:Nat}{k:Str}{a:Nat}(h:(k,a)∈prsG G n):a<n/\k∈G a:=by
 unfold prsG at h;obtain⟨b,l,r⟩:=x1p.1 h;obtain⟨s,q,m⟩:=x0n.1 r;cases m;exact⟨x1a.1 l,q⟩
def RL(G T:Nat->List Str)(l:Nat->Int)(n:Nat)(steps:List (Int×Int))(h:Str):(outN G T l n steps h).length<=n*(atN G n h).length:=by
 unfold outN;refine x1t (Uj _ (atN G n h).length _ fun c q=>?_) (by rw[x3j];exact x0o _);refine x1t (Uj _ 1 _ fun f _=>by split<;>simp) ?_;rw[x7v,x0y];cases m:(comC n steps (atN G n h))[c]?with
 |none=>simp
 |some r=>exact(LP (x0i m)).1
def OL(h:∀a,(G a).length<=k)(n:Nat):(prsG G n).length<=n*k:=by
 unfold prsG;refine x1t (Uj _ k _ fun a _=>by rw[x0j];exact h a) (by rw[x3j];exact x0o _)
def Cg{T:Nat->List Str}{h:Nat->Int}{n:Nat}{steps:List (Int×Int)}(l:n<=202)(x:∀a,(G a).length<=34)(m:∀a,(G a).Nodup):(((mapG (prsG G n)).map Prod.fst).flatMap (outN G T h n steps)).length<=1000000000:=by
 have r:=Ip (prsG G n);have t:=OL x n;have y:=Uj (outN G T h n steps) (202*202) ((mapG (prsG G n)).map Prod.fst) fun q _=>by
  refine x1t (RL G T h n steps q) ?_;have u:(atN G n q).length<=n:=by
   rw[Be m];exact x1t (x2l _ _) (by simp)
  exact Nat.mul_le_mul l (x1t u l)
 have v:((mapG (prsG G n)).map Prod.fst).length<=202*34:=x1t r (x1t t (x2z _ l));have z:((mapG (prsG G n)).map Prod.fst).length*(202*202)<=(202*34)*(202*202):=x2z _ v;omega
def Q0{L:List (List Str)}{Q:List Str->Prop}(l:Q [])(h:∀o∈L,Q o)(i:Nat):Q (L.getD i []):=by
 rw[x0y];cases m:L[i]?with
 |none=>exact l
 |some o=>exact h o (x0i m)
def Pf{i:Nat}{I:List Str}(h:∀d∈D,d.Pairwise ltT)(a:Nat):(Mi p i f D I a).Pairwise ltT:=by
 unfold Mi;split
 .exact ZJ _
 split
 .exact .nil
 cases(QQ p i f).live.getD a false with
 |false=>exact .nil
 |true=>exact Q0 .nil h _
def AS{i:Nat}{O:List Str}(h:∀d∈U,d.Pairwise ltT)(a:Nat):(Ea p i f U O a).Pairwise ltT:=by
 unfold Ea;split
 .exact ZJ _
 split
 .exact .nil
 cases(QQ p i f).live.getD a false with
 |false=>exact .nil
 |true=>exact Q0 .nil h _
def Rr{i:Nat}{I:List Str}(h:∀d∈D,d.length<=34)(m:I.length<=25)(n:f.B.length<=8)(a:Nat):(Mi p i f D I a).length<=34:=by
 unfold Mi;split
 .refine x1t (UI _) ?_;rw[x0g,x0j];omega
 split
 .simp
 cases(QQ p i f).live.getD a false with
 |false=>simp
 |true=>exact Q0 (Q:=fun l=>l.length<=34) (by simp) h _
def RJ{n:Str}(h:DJ p f n≠0):n∈p.D\/n∈Jc f:=by
 unfold DJ at h;unfold Jc;cases q:f.B.find? (fun a=>a.name==n)with
 | some a=>
   refine .inr (x2x _ (x0n.2 ⟨a,x3l q,by simpa using x4o q⟩))
 | none=>
   rw[q]at h;cases t:f.Q.any (fun s=>n==s)with
   | true=>
     obtain⟨s,l,m⟩:=x2e.1 t;exact .inr (x2r _ (by rw[eq_of_beq m];exact l))
   | false=>
     cases r:p.D.any (fun s=>n==s)with
     | true=>
       obtain⟨s,l,m⟩:=x2e.1 r;exact .inl (by rw[eq_of_beq m];exact l)
     |false=>exact absurd (by simp only[t,r];rfl) h
def Pd(h:QE p=true){n:Str}(m:n∈p.D):isName n=true:=by
 have l:=(QF h).1;unfold JJ at l;simp only[x1z]at l;exact x2w.1 l.1.2 n m
def Fc(h:QE p=true)(t:f∈p.A){n:Str}(l:n∈Jc f):isName n=true:=by
 obtain⟨_,_,_,m,_,q⟩:=JK.1 (Lx (QF h).1 t);rcases x0r.1 l with l|l
 .obtain ⟨a,r,rfl⟩:=x0n.1 l;exact x2w.1 q a r
 .exact x2w.1 m n l
section
variable {p:Pg}{j:Nat}{f:Pr}
def Nf(h:QE p=true)(q:f∈p.A){t:S}(v:t∈flL f.body){n:Str}(u:n∈ZP t):isName n=true:=by
 have m:=JB (QF h).2.1 q v;unfold knownB at m;rw[x1z]at m;have r:=x2w.1 m.1 n u;rcases RJ (by simpa using r)with l|l
 .exact Pd h l
 .exact Fc h q l
def EB{t:S}{a:Arg}(m:a∈t.args){n:Str}(h:n∈usA a):n∈ZP t:=by
 unfold ZP;refine x2r _ (x1p.2 ⟨a,m,?_⟩);unfold usA at h;unfold KX;rcases x0r.1 h with h|h
 .refine x2x _ ?_;cases l:a.ref with
  |true=>rw[l,if_pos rfl]at h;exact h
  |false=>rw[l,if_neg (by decide)]at h;cases h
 .exact x2r _ h
def q1j{t:S}:inAt (bkI p I) t=I.getD (caI p t).toNat []:=rfl
def q6v(h:QE p=true)(u:p.A[j]?=some f){t:S}(v:t∈flL f.body):∃m,(sheetOf p).l[(t.id-1).toNat]?=some m/\m.s=t:=by
 have n:=AD h u v;unfold OE at n;obtain⟨m,q,r⟩:=x5m.1 n;exact⟨m,q,r⟩
def q8b(h:QE p=true)(m:p.A[j]?=some f){t:S}(n:t∈flL f.body)(I:List (List Str)):FZ (usB p I) t.id=WA (MY (bkI p I) t):=by
 obtain⟨q,l,rfl⟩:=q6v h m n;unfold FZ usB;rw[x0y,x0d,l];rfl
def q4n{y:Int}(h:plP p j f y):idN p j f (ixI p j f y)=y:=BP h
def q1t(h:QE p=true)(l:p.A[j]?=some f){x:Str}{b:Int}(t:wR p j f a b)(r:FV p j f D x (ixI p j f a)=true):nR p j f D x (ixI p j f a) (ixI p j f b):=by
 have m:=(Rv h l).2 (.inl t);obtain⟨n,q⟩:=P4 h l m;exact⟨r,(Fi h l n q).2 m⟩
def q4p{x:Str}(h:QE p=true)(y:p.A[j]?=some f){t:S}(z:t∈flL f.body)(c:x∈FZ U t.id):hitN p j f U o x (ixI p j f t.id)=true:=by
 have u:=WD (QF h).1 y z;have l:plP p j f t.id:=.inr (.inr u);have d:=ZE l;unfold hitN;have r:¬ixI p j f t.id=(QW f.body+2:Nat)-1:=fun v=>by
  have:=PB l (.inr (.inl rfl)) (v.trans ix_exit.symm);omega
 have n:0<ixI p j f t.id:=by
  rcases Int.lt_or_le 0 (ixI p j f t.id)with m|m
  .exact m
  .have q:ixI p j f t.id=ixI p j f 0:=by
    have:ixI p j f 0=0:=by unfold ixI UJ;rw[if_pos rfl]
    omega
   have:=PB l (.inl rfl) q;omega
 rw[x2h r,x2a n];show inS (FZ U (idN p j f (ixI p j f t.id))) x=true;rw[q4n l];exact ZA.2 c
def IR{x:Str}(h:QE p=true)(d:p.A[j]?=some f){y:Int}(q:plP p j f y)(m:y ≠ -1)(l:FV p j f D x (ixI p j f y)=false):∃t∈flL f.body,t.id=y/\x∈FZ D y:=by
 unfold FV at l;by_cases u:ixI p j f y=(QW f.body+2:Nat)-1
 .exact absurd (PB q (.inr (.inl rfl)) (u.trans ix_exit.symm)) m
 .rw [x2h u]at l;by_cases n:0<ixI p j f y
  .rw [x2a n]at l;have r:inS (FZ D (idN p j f (ixI p j f y))) x=true:=by simpa using l
   rw[q4n q]at r;rcases q with rfl|rfl|⟨v,z⟩
   .unfold ixI UJ at n;rw[if_pos rfl]at n;omega
   .exact absurd rfl m
   .obtain ⟨t,e,_,c⟩:=Qn h d v z;exact⟨t,e,c,ZA.1 r⟩
  .rw [x2h n]at l;cases l
end
section
variable {a b:Str}{p:Pg}{j:Nat}{f:Pr}
end
section
variable {a b:Str}{p:Pg}{j:Nat}{f:Pr}
end
def count_set{l:List Bool}{k:Nat}(m:k<l.length)(h:l.getD k false=false):(l.set k true).count false+1=l.count false:=by
 rw[x0y,x0u m]at h;have n:l[k]=false:=h;have q:0<l.count false:=List.count_pos_iff.2 (n▸x0s m);rw[List.count_set m,n];simp;omega
theorem NedJ.shutN{i:Nat}{x:Str}{n:Nat}(t:netR p i f=net)(h:QE p=true)(q:p.A[i]?=some f)(m:NedJ p i f D U o x n a k seen todo)(r:(net.getD a.toNat []).length<=k)(l:hitN p i f U o x a=false):NedI p i f D U o x n seen todo:=by
 subst t;exact m.shut h q r l
theorem NedJ.oldN{i:Nat}{x:Str}{n:Nat}(q:netR p i f=net)(l:NedJ p i f D U o x n a k seen todo)(m:k<(net.getD a.toNat []).length)(r:seen.getD ((net.getD a.toNat [])[k]).toNat false=true):NedJ p i f D U o x n a (k+1) seen todo:=by
 subst q;exact l.old m r
theorem NedJ.newN{i:Nat}{x:Str}{n:Nat}(t:netR p i f=net)(l:NedJ p i f D U o x n a k seen todo)(r:k<(net.getD a.toNat []).length){c:Int}(q:c=(net.getD a.toNat [])[k])(u:0<=c/\c<(n:Int))(m:nR p i f D x a c):NedJ p i f D U o x n a (k+1) (seen.set c.toNat true) (todo++[c]):=by
 subst t;exact l.new r q u m
def Kn(h:K s):ZW s K:=by
 rw[VJ];exact h
def An{ops:Array Oper}(h:K s):run P T N ops [] s K:=h
def AA{id:Nat}(l:info.frz id=[])(h:Kz (info.keep id) s K):Nc info id s K:=by
 unfold Nc;rw[l];show Kz (info.keep id) s fun s=>ZW s K;have e:(fun s=>ZW s K)=K:=funext fun s=>VJ s K;rw[e];exact h
def R8{l:List Nat}(s':St)(h:∀K:St->Prop,K s'->Kz l s K)(m:K s'):Kz l s K:=h K m
def T7{sl:List (Nat×LV)}{d:Nat}{v:LV}{K:List (Nat×LV)->Prop}(l:blt d N=true)(h:K (M6 sl d v)):setD N sl (some d) v K:=by
 show(bif blt d N then q2q sl d v K else False);rw[l,x1u,Yr];exact h
def q3i{c:Operand}{a b:Code}{K:Exit->St->Prop}(h:QL s.sl c=.p (.bool false))(l:W P T N info b K s):W P T N info (.cond c a b) K s:=by
 unfold W;rw[h];exact Br.ff l
def q3o{c:Operand}{a b:Code}{K:Exit->St->Prop}(h:QL s.sl c=.p (.bool true))(l:W P T N info a K s):W P T N info (.cond c a b) K s:=by
 unfold W;rw[h];exact Br.tt l
def Ur(b:Book)(p:Pg)(h:QE p=true)(i:Nat)(f:Pr)(L:p.A[i]?=some f)(hW:b.ways[i]?=some (QQ p i f))(o:List Str)(hO:b.P[i]?=some o)(ho:o.Pairwise ltT)(hol:o.length<=1000000000)(hDl:b.G.length=(sheetOf p).l.length)(hUl:b.N.length=(sheetOf p).l.length)(hDr:∀d∈b.G,d.Pairwise ltT/\d.length<=1000000000)(hUr:∀d∈b.N,d.Pairwise ltT/\d.length<=1000000000)(x:Str):SpecP prog 171 [.ip b.cells,.int .i64 i,eMat (netR p i f),.str x] (fun r=>r=.bool (SV p i f b.G b.N o x)):=by
 refine sB Xq func171 rfl call171 ?_;conv=>whnf
 obtain⟨n,hn⟩ : ∃n,n=QW f.body+2:=⟨_,rfl⟩;have hcn:=(XP h).2.2;obtain⟨_,_,_,hsl,hsp⟩:=QJ p;obtain⟨_,_,hle,_⟩:=hsp i f L;have hn200:n<=202:=by omega
 have hg1:(b.ways.map fun w=>AV.ip w.cells)[i]?=some (.ip (QQ p i f).cells):=by rw[x0d,hW];rfl
 have hg2:(b.P.map eStrs)[i]?=some (eStrs o):=by rw[x0d,hO];rfl
 have Y:(QQ p i f).n=n:=by rw[hn];rfl
 have hHo:=Q1 o x ho hol;have hP:∀a:Int,0<=a/\a<=5000->SpecP prog 65 [.ip (QQ p i f).cells,.int .i64 a] (fun r=>r=.int .i64 (idN p i f a)):=fun a ha=>WG (QQ p i f) f L (by show cntP p.A<=1000;omega) ⟨by rw[Y];omega,by rw[Y];omega⟩ a ha;have hNl:(netR p i f).length=n:=by rw[hn];exact Yj _ _
 have hNr:∀a:Nat,a<n->∀c∈(netR p i f).getD a [],nR p i f b.G x a c\/FV p i f b.G x a=false:=fun a ha c z=>by
  have hm:=(Yk fun t ht=>(HY h L t ht).1).1 z;obtain⟨t,ht,h1,h2⟩:=hm;cases hq:FV p i f b.G x a with
  |false=>exact .inr rfl
  |true=>exact .inl ⟨hq,by rw[<-h1,<-h2];exact ht⟩
 have hNi:∀a:Nat,a<n->∀c∈(netR p i f).getD a [],0<=c/\c<(n:Int):=fun a ha c z=>by
  obtain⟨t,ht,_,rfl⟩:=(Yk fun t ht=>(HY h L t ht).1).1 z;have:=(HY h L t ht).2;omega
 have hNc:∀a:Nat,((netR p i f).getD a []).length<=200000:=fun a=>by
  refine x1t (N7 _ _ a) ?_;unfold UA;rw[x0j];exact He h L
 have hId:∀a:Int,0<a->a<(n:Int)-1->1<=idN p i f a/\(idN p i f a-1).toNat<(sheetOf p).l.length:=fun a h1 h2=>by
  unfold idN QH loI;rw[if_neg (by omega),if_neg (by omega)];omega
 obtain⟨net,q⟩ : ∃net,netR p i f=net:=⟨_,rfl⟩;rw[q]at hNl hNr hNi hNc⊢;generalize QQ p i f=w at hg1 Y hP hW;repeat' ((first|refine x0h rfl ?_|refine aD ?_|refine aR ?_|(refine IdxK.at (k:=i) rfl hg1 rfl ?_)|refine x5r n Y (by show 1*n<=140737488355328;omega) (by unfold maxLen;omega) ?_|refine x6n (fun x hx=>by rcases x0b.1 hx with rfl;rfl) rfl ?_);conv=>whnf)
 refine LoopK.inv QK (fun y:List Bool×List Int=>⟨[(0,.p (.ip b.cells)),(1,.p (.int .i64 i)),(2,.p (eMat net)),(3,.p (.str x)),(9,.p (.ip w.cells)),(10,.hd 0 0 n),(11,.hd 1 0 y.2.length)],[(1,.own 3 1 (y.2.map (.int .i64))),(0,.own 4 1 (y.1.map bv))]⟩)
  (fun y=>NedI p i f b.G b.N o x n y.1 y.2/\y.2.length+y.1.count false<=n+1) (fun y=>2*y.1.count false+y.2.length) (List.replicate n false,[0]) (Le.of_eq (by rw[x3b];rfl)) ⟨NedI.start n (by omega),by simp;omega⟩ ?_
 rintro⟨seen,todo⟩ ⟨C,hc1⟩;simp only at C hc1⊢;rcases List.eq_nil_or_concat todo with rfl|⟨st,a,rfl⟩
 .have hz:(([]:List Int).length)=0:=rfl;conv=>whnf
  repeat' (first|(refine iM fun _=>?_;conv=>whnf)|(apply bD<;>intro _<;>first|omega|conv=>whnf))
  all_goals exact RetK.ff (C.stop h L)
 rw[List.concat_eq_append]at C hc1⊢;have hstl:(st++[a]).length=st.length+1:=by simp
 have F:=C.rng a (by simp);have e3:((st++[a]).map (AV.int .i64))[st.length]?=some (.int .i64 a):=by simp
 have hsl2:=C.len;have hway:=C.way a (C.td a (by simp));have hPa:=hP a ⟨F.1,by omega⟩;have e:∀(sl:List (Nat×LV)),Le Tryz.f171.ntmps ⟨sl,[(1,.own 3 1 ((st++[a]).map (.int .i64))),(0,.own 4 1 (seen.map bv))]⟩ ⟨sl,[(1,.own 3 1 (st.map (.int .i64))),(0,.own 4 1 (seen.map bv))]⟩:=fun sl=>Le.cut (.cut ⟨[.int .i64 a],by simp⟩ (.same .nil));have hrow:((avI net).map AV.sl)[a.toNat]?=some (.sl ((net.getD a.toNat []).map (.int .i64))):=by
  have:a.toNat<net.length:=by rw[hNl];omega
  rw[x0y,x0u this];simp[avI,this]
 have hrl:((net.getD a.toNat []).map (AV.int .i64)).length=(net.getD a.toNat []).length:=x0j _;have hcs:a=(n:Int)-1\/(a=0/\¬a=(n:Int)-1)\/(0<a/\¬a=(n:Int)-1):=by omega
 rcases hcs with Z|⟨hz,Z⟩|⟨Q,Z⟩
 ·-- the exit
  have m:hitN p i f b.N o x a=inS o x:=by unfold hitN;rw[<-hn,x2a Z];rfl
  have u:FV p i f b.G x a=false:=by unfold FV;rw[<-hn,x2a Z];rfl
  conv=>whnf
  repeat' (first|((first|(refine iM fun _=>?_)|refine x0h rfl ?_|refine wI ?_|refine x1i st.length (by omega) (by omega) ?_|refine x2t st.length 0 (.int .i64 a) (by omega) e3 ?_|refine SlK.mk 0 st.length rfl (by show((st++[a]).length:Int)-1=_;omega) (by omega) (by omega) ?_|(refine IdxK.at (k:=i) rfl hg2 rfl ?_)|refine cP hHo ?_);conv=>whnf)|(apply bD<;>intro _<;>first|omega|conv=>whnf)|(apply bB<;>intro _<;>conv=>whnf))
  .exact RetK.tt ((BD h L).2 ⟨a,hway,by rw[m];assumption⟩)
  .exact ⟨(seen,st),⟨C.skip (by rw[m];assumption) u,by simp only;omega⟩,by simp only;omega,(e _).trans (lE)⟩
 ·-- the entry
  have m:hitN p i f b.N o x a=false:=by unfold hitN;rw[<-hn,x2h Z,x2h (by omega)];rfl
  have u:FV p i f b.G x a=true:=by unfold FV;rw[<-hn,x2h Z,x2h (by omega)];rfl
  conv=>whnf
  repeat' (first|((first|(refine iM fun _=>?_)|refine x0h rfl ?_|refine wI ?_|refine x1i st.length (by omega) (by omega) ?_|refine x2t st.length 0 (.int .i64 a) (by omega) e3 ?_|refine SlK.mk 0 st.length rfl (by show((st++[a]).length:Int)-1=_;omega) (by omega) (by omega) ?_|(refine IdxK.at (k:=a.toNat) (by omega) hrow rfl ?_));conv=>whnf)|(apply bD<;>intro _<;>first|omega|conv=>whnf))
  refine LoopK.inv QK (fun y:Nat×List Bool×List Int=>⟨[(0,.p (.ip b.cells)),(1,.p (.int .i64 i)),(2,.p (eMat net)),(3,.p (.str x)),(9,.p (.ip w.cells)),(10,.hd 0 0 n),(11,.hd 1 0 y.2.2.length),(87,.p (QI (net.getD a.toNat []))),(88,.p (.int .i64 ((net.getD a.toNat []).map (AV.int .i64)).length)),(89,.p (.int .i64 y.1))],[(1,.own 3 1 (y.2.2.map (.int .i64))),(0,.own 4 1 (y.2.1.map bv))]⟩)
   (fun y=>y.1<=(net.getD a.toNat []).length/\NedJ p i f b.G b.N o x n a y.1 y.2.1 y.2.2/\y.2.2.length+y.2.1.count false<=n/\2*y.2.1.count false+y.2.2.length<=2*seen.count false+st.length) (fun y=>(net.getD a.toNat []).length-y.1) (0,seen,st)
   ((e _).trans (Le.of_eq rfl)) ⟨x0l _,C.open,by simp only;omega,x0o _⟩ ?_
  rintro⟨k,g,td⟩ ⟨h1,E,h3,h4⟩;simp only at h1 E h3 h4⊢;rcases x0t k (net.getD a.toNat []).length with v|v;rotate_left 1
  .conv=>whnf
   repeat' (apply bD<;>intro _<;>first|omega|conv=>whnf)
   all_goals exact⟨(g,td),⟨E.shutN q h L v m,by simp only;omega⟩,by simp only;omega,lE⟩
  .obtain ⟨c,z⟩ : ∃c,c=(net.getD a.toNat [])[k]:=⟨_,rfl⟩;have H:c∈net.getD a.toNat []:=by rw[z];exact x0s v
   have hcr:=hNi a.toNat (by omega) c H;have hcR:nR p i f b.G x a c:=by
    rcases hNr a.toNat (by omega) c H with R|R
    .rwa [x5q F.1]at R
    .rw [x5q F.1,u]at R;cases R
   have hsnl:=E.len;have B:=Oa (l:=g) (i:=c.toNat) (by omega);have e5:((net.getD a.toNat []).map (AV.int .i64))[k]?=some (.int .i64 c):=by rw[x0d,x0u v,<-z];rfl
   cases V:g.getD c.toNat false with
   | true=>
     rw[V]at B;conv=>whnf
     repeat' (first|((first|refine x0h rfl ?_|(refine iA fun _=>?_)|refine wI ?_|refine x1i c.toNat (by omega) (by omega) ?_|refine x2t c.toNat 0 .tt (by omega) B ?_);conv=>whnf)|(apply bD<;>intro _<;>first|omega|conv=>whnf))
     all_goals first
       |exact⟨(k+1,g,td),⟨v,E.oldN q v (by rw[<-z];exact V),h3,h4⟩,by simp only;omega,Le.of_eq rfl⟩
   | false=>
     rw[V]at B;have hcs:=count_set (l:=g) (k:=c.toNat) (by omega) V;conv=>whnf
     repeat' (first|((first|refine x0h rfl ?_|refine aD ?_|refine bP ?_|(refine iA fun _=>?_)|refine wI ?_|refine x1i c.toNat (by omega) (by omega) ?_|refine x2t c.toNat 0 .ff (by omega) B ?_|refine x3p c.toNat 0 .ff .tt (by omega) B (x0o 1) rfl ?_|refine XU (by simp) (by simp;omega) ?_);conv=>whnf)|(apply bD<;>intro _<;>first|omega|conv=>whnf))
     all_goals first
       |exact⟨(k+1,g.set c.toNat true,td++[c]),⟨v,E.newN q v z hcr hcR,by simp only[x0g,x1h];omega,by simp only[x0g,x1h];omega⟩,by simp only;omega,Le.of_eq (by rw[<-z];simp only[x2y,x0c,x0g];rfl)⟩
 ·-- a statement
  obtain⟨hid1,hid2⟩:=hId a Q (by omega);have hgU:(b.N.map eStrs)[(idN p i f a-1).toNat]?=some (eStrs (FZ b.N (idN p i f a))):=by
   unfold FZ;rw[x0d,x0y,x0u (by omega)];rfl
  have hgD:(b.G.map eStrs)[(idN p i f a-1).toNat]?=some (eStrs (FZ b.G (idN p i f a))):=by
   unfold FZ;rw[x0d,x0y,x0u (by omega)];rfl
  have hrU:(FZ b.N (idN p i f a)).Pairwise ltT/\(FZ b.N (idN p i f a)).length<=1000000000:=by
   unfold FZ;rw[x0y,x0u (by omega)];exact hUr _ (x0s _)
  have hrD:(FZ b.G (idN p i f a)).Pairwise ltT/\(FZ b.G (idN p i f a)).length<=1000000000:=by
   unfold FZ;rw[x0y,x0u (by omega)];exact hDr _ (x0s _)
  have hHU:=Q1 _ x hrU.1 hrU.2;have hHD:=Q1 _ x hrD.1 hrD.2;have J:hitN p i f b.N o x a=inS (FZ b.N (idN p i f a)) x:=by unfold hitN;rw[<-hn,x2h Z,x2a Q];rfl
  have M:FV p i f b.G x a = !inS (FZ b.G (idN p i f a)) x:=by unfold FV;rw[<-hn,x2h Z,x2a Q];rfl
  generalize idN p i f a=id at*
  generalize FZ b.N id=lu at*
  generalize FZ b.G id=ld at*
  conv=>whnf
  repeat' (first|((first|(refine iM fun _=>?_)|refine x0h rfl ?_|refine wI ?_|refine x1i st.length (by omega) (by omega) ?_|refine x2t st.length 0 (.int .i64 a) (by omega) e3 ?_|refine SlK.mk 0 st.length rfl (by show((st++[a]).length:Int)-1=_;omega) (by omega) (by omega) ?_|refine cP hPa ?_|(refine IdxK.at (k:=(id-1).toNat) (by omega) hgU rfl ?_));conv=>whnf)|(apply bD<;>intro _<;>first|omega|conv=>whnf))
  refine CallK.pure hHU (.cons (Sub.refl _) (.cons (Sub.refl _) .nil)) ?_;rintro _ rfl;refine T7 (by kernel_rfl) ?_;refine Kn ?_;refine An ?_;refine AA (by kernel_rfl) ?_;refine R8 ⟨[(0,.p (.ip b.cells)),(1,.p (.int .i64 i)),(2,.p (eMat net)),(3,.p (.str x)),(9,.p (.ip w.cells)),(10,.hd 0 0 n),(11,.hd 1 0 st.length),(12,.p (.int .i64 a)),(13,.p (.int .i64 id)),(73,.p (.bool (inS lu x)))],[(1,.own 3 1 ((st++[a]).map (.int .i64))),(0,.own 4 1 (seen.map bv))]⟩ (fun K h=>h) ?_;cases hqu:inS lu x;rotate_left
  .refine q3o rfl ?_;conv=>whnf
   skip
   all_goals exact RetK.tt ((BD h L).2 ⟨a,hway,by rw[J,hqu]⟩)
  refine q3i rfl ?_;conv=>whnf
  repeat' ((first|refine wI ?_|(refine IdxK.at (k:=(id-1).toNat) (by omega) hgD rfl ?_));conv=>whnf)
  refine CallK.pure hHD (.cons (Sub.refl _) (.cons (Sub.refl _) .nil)) ?_;rintro _ rfl;refine T7 (by kernel_rfl) ?_;refine Kn ?_;refine An ?_;refine AA (by kernel_rfl) ?_;refine R8 ⟨[(0,.p (.ip b.cells)),(1,.p (.int .i64 i)),(2,.p (eMat net)),(3,.p (.str x)),(9,.p (.ip w.cells)),(10,.hd 0 0 n),(11,.hd 1 0 st.length),(12,.p (.int .i64 a)),(83,.p (.bool (inS ld x)))],[(1,.own 3 1 ((st++[a]).map (.int .i64))),(0,.own 4 1 (seen.map bv))]⟩ (fun K h=>h) ?_;have m:hitN p i f b.N o x a=false:=by rw[J,hqu]
  cases hqd:inS ld x;rotate_left
  .have u:FV p i f b.G x a=false:=by rw[M,hqd];rfl
   refine q3o rfl ?_;conv=>whnf
   skip
   all_goals exact⟨(seen,st),⟨C.skip m u,by simp only;omega⟩,by simp only;omega,(e _).trans (lE)⟩
  .have u:FV p i f b.G x a=true:=by rw[M,hqd];rfl
   refine q3i rfl ?_;conv=>whnf
   repeat' ((first|(refine iM fun _=>?_)|(refine IdxK.at (k:=a.toNat) (by omega) hrow rfl ?_));conv=>whnf)
   refine LoopK.inv QK (fun y:Nat×List Bool×List Int=>⟨[(0,.p (.ip b.cells)),(1,.p (.int .i64 i)),(2,.p (eMat net)),(3,.p (.str x)),(9,.p (.ip w.cells)),(10,.hd 0 0 n),(11,.hd 1 0 y.2.2.length),(87,.p (QI (net.getD a.toNat []))),(88,.p (.int .i64 ((net.getD a.toNat []).map (AV.int .i64)).length)),(89,.p (.int .i64 y.1))],[(1,.own 3 1 (y.2.2.map (.int .i64))),(0,.own 4 1 (y.2.1.map bv))]⟩)
    (fun y=>y.1<=(net.getD a.toNat []).length/\NedJ p i f b.G b.N o x n a y.1 y.2.1 y.2.2/\y.2.2.length+y.2.1.count false<=n/\2*y.2.1.count false+y.2.2.length<=2*seen.count false+st.length) (fun y=>(net.getD a.toNat []).length-y.1) (0,seen,st)
    ((e _).trans (Le.of_eq rfl)) ⟨x0l _,C.open,by simp only;omega,x0o _⟩ ?_
   rintro⟨k,g,td⟩ ⟨h1,E,h3,h4⟩;simp only at h1 E h3 h4⊢;rcases x0t k (net.getD a.toNat []).length with v|v;rotate_left 1
   .conv=>whnf
    repeat' (apply bD<;>intro _<;>first|omega|conv=>whnf)
    all_goals exact⟨(g,td),⟨E.shutN q h L v m,by simp only;omega⟩,by simp only;omega,lE⟩
   .obtain ⟨c,z⟩ : ∃c,c=(net.getD a.toNat [])[k]:=⟨_,rfl⟩;have H:c∈net.getD a.toNat []:=by rw[z];exact x0s v
    have hcr:=hNi a.toNat (by omega) c H;have hcR:nR p i f b.G x a c:=by
     rcases hNr a.toNat (by omega) c H with R|R
     .rwa [x5q F.1]at R
     .rw [x5q F.1,u]at R;cases R
    have hsnl:=E.len;have B:=Oa (l:=g) (i:=c.toNat) (by omega);have e5:((net.getD a.toNat []).map (AV.int .i64))[k]?=some (.int .i64 c):=by rw[x0d,x0u v,<-z];rfl
    cases V:g.getD c.toNat false with
    | true=>
      rw[V]at B;conv=>whnf
      repeat' (first|((first|refine x0h rfl ?_|(refine iA fun _=>?_)|refine wI ?_|refine x1i c.toNat (by omega) (by omega) ?_|refine x2t c.toNat 0 .tt (by omega) B ?_);conv=>whnf)|(apply bD<;>intro _<;>first|omega|conv=>whnf))
      all_goals first
        |exact⟨(k+1,g,td),⟨v,E.oldN q v (by rw[<-z];exact V),h3,h4⟩,by simp only;omega,Le.of_eq rfl⟩
    | false=>
      rw[V]at B;have hcs:=count_set (l:=g) (k:=c.toNat) (by omega) V;conv=>whnf
      repeat' (first|((first|refine x0h rfl ?_|refine aD ?_|refine bP ?_|(refine iA fun _=>?_)|refine wI ?_|refine x1i c.toNat (by omega) (by omega) ?_|refine x2t c.toNat 0 .ff (by omega) B ?_|refine x3p c.toNat 0 .ff .tt (by omega) B (x0o 1) rfl ?_|refine XU (by simp) (by simp;omega) ?_);conv=>whnf)|(apply bD<;>intro _<;>first|omega|conv=>whnf))
      all_goals first
        |exact⟨(k+1,g.set c.toNat true,td++[c]),⟨v,E.newN q v z hcr hcR,by simp only[x0g,x1h];omega,by simp only[x0g,x1h];omega⟩,by simp only;omega,Le.of_eq (by rw[<-z];simp only[x2y,x0c,x0g];rfl)⟩
inductive SlR(g:Nat->Option Nat)(sl:List (Nat×LV)):List (Nat×LV)->Prop
 |nil:SlR g sl []
 |cons {i:Nat} {l:LV} {r:List (Nat×LV)} (h:LSub ((getS sl i).ren g) l) (hr:SlR g sl r):SlR g sl ((i,l)::r)
theorem SlR.r{g:Nat->Option Nat}{sl:List (Nat×LV)}{i:Nat}{r:List (Nat×LV)}(h:SlR g sl r):SlR g sl ((i,(getS sl i).ren g)::r):=.cons (.refl _) h
theorem SlR.get{g:Nat->Option Nat}{sl m:List (Nat×LV)}(h:SlR g sl m)(i:Nat):LSub ((getS sl i).ren g) (getS m i)\/getS m i=.p .any:=by
 induction h with
 |nil=>exact .inr rfl
 | @cons j l r h u t=>
   simp only[getS];by_cases q:j=i
   .subst q;exact .inl (by simpa using h)
   .have:(j==i)=false:=by simp[q]
    simpa[this]using t
def q0v{s':St}(π:Nat->Nat)(x:∀k,π (π k)=k)(v:∀j,1000<=j->j<2000->π j=j)(B:SlR (fun k=>some (π k)) s.sl s'.sl)(C:∀j c,(j,c)∈s'.H->∃r,(π j,r)∈s.H/\CSub (r.ren fun k=>some (π k)) c)(A:(s'.H.map (·.1)).Nodup):Le N s s':=fun σ β a w q=>by
 have F:∀k j,(fun k=>some (π k)) k=some j->(fun j=>β (π j)) j=β k:=fun k j L=>by
  cases L;show β (π (π k))=β k;rw[x]
 have l:∀j∈s'.H.map (·.1),π j∈s.H.map (·.1):=fun j m=>by
  obtain⟨⟨y,c⟩,M,rfl⟩:=x0n.1 m;obtain⟨r,n,_⟩:=C y c M;exact x0n.2 ⟨_,n,rfl⟩
 refine⟨σ,fun j=>β (π j),⟨q.size,q.defers,fun i=>?_,q.heap.mem,fun j c m=>?_,A,fun j m i u b t=>q.heap.apart (π j) (l j m) i u b t,fun j m y g i i' u e b t d=>?_⟩,Mem.le_refl σ,Frm.refl _ _,fun b z n=>absurd z n,fun b ⟨j,m,i,u,t⟩=>.inl ⟨π j,l j m,i,u,t⟩,fun k z n=>?_⟩
 .rcases B.get i with h|h
  .exact h.rep ((q.E i).ren F)
  .rw [h];exact .p (.any _)
 .obtain ⟨r,n,J⟩:=C j c m;exact J _ _ _ _ ((q.heap.chunks (π j) r n).ren (j:=j) F (by show some (π (π j))=some j;rw[x]))
 .have:=q.heap.inj (π j) (l j m) (π y) (l y g) i i' u e b t d;rw[<-x j,this,x]
 .show β (π k)=β k;rw[v k z n]
def YE(l:List Str)(q:l.length<=1000000000):SpecH prog 94 [.hd 1000 0 l.length] [(1000,.own 9 1 (l.map .str))] (fun r H=>r=.p (eStrs (WA l))/\H=[]):=by
 have h:=Ut l q;refine⟨h.go,fun σ β w y d g A=>(h.ok σ β w y d g A).mono fun F w' C=>?_⟩;obtain⟨r,u,σ',β',H',B,⟨rfl,rfl⟩,x,v,n⟩:=C;generalize WA l=m at*
 obtain⟨s',rfl,c⟩:=Le.row (N:=1) (s:=⟨[(0,.hd 1000 0 m.length)],[(1000,.own 9 1 (m.map .str))]⟩) (k:=1000) (e:=9) (sz:=1) (es:=m.map .str) (zs:=[0]) rfl (K:=fun s=>s=⟨[(0,.p (eStrs m))],[]⟩)
  ⟨(x0j _).symm,rfl⟩
 obtain⟨σ2,β2,t,z⟩:=c σ' β' {tmps:=#[u],defers:=[]} w' ⟨rfl,rfl,fun i=>by
  match i with
  |0=>simpa[getS]using x
  |i+1=>exact .p (by simpa[getS]using Rep.any _),v⟩
 exact⟨.p (eStrs m),u,σ2,β2,[],B,⟨rfl,rfl⟩,by simpa[getS]using t.E 0,t.heap,n.trans z⟩
def Lw(p:Pg)(h l m:LV)(n:Nat):Chunk:=.obj 93 [.p (.ip (sheetOf p).cells),h,l,m,.hd 0 0 n,.hd 1 0 n]
def YW(L:List (List Str)):Chunk:=.own 22 1 (L.map eStrs)
def Gp(p:Pg)(k:Nat):Chunk:=.own 122 1 (((wysB p).take k).map fun w=>.ip w.cells)
def Cx(n:Nat):ElS (List.replicate n (AV.ofV (.slice none 0 0))) ((List.replicate n ([]:List Str)).map eStrs):=by
 refine⟨by simp,fun m x h=>?_⟩;rw[x3b,x1b]at h;rw[x1b];split at h
 .cases h;rw[if_pos (by assumption)];refine⟨_,rfl,rfl,fun j c l=>?_⟩
  match j,l with
  |0,l=>cases l;exact⟨_,rfl,Sub.nils⟩
 .cases h
def q4c{a:AV}{n:Nat}:
  Le N ⟨[(1,.p a),(3,.ptr 2 0)],[(2,.obj 93 [.p (.ip (sheetOf p).cells),.p (AV.ofS (.slice none 0 0)),.p (AV.ofS (.slice none 0 0)),.p (AV.ofS (.slice none 0 0)),.hd 0 0 n,.hd 1 0 n]),(1,.own 22 1 (List.replicate n (AV.ofV (.slice none 0 0)))),(0,.own 22 1 (List.replicate n (AV.ofV (.slice none 0 0))))]⟩
   ⟨[(1,.p a),(3,.ptr 2 0)],[(3,Gp p 0),(2,Lw p (.hd 3 0 0) (.p .nils) (.p .nils) n),(1,YW (List.replicate n [])),(0,YW (List.replicate n []))]⟩:=by
 refine Le.trans (Le.L (.same (.L (Cx n) (.L (Cx n) .nil)))) ?_;exact Le.mk [(3,Gp p 0)] (by simp[Chunk.new0,Gp];rfl) (by simp) (by simp) (.r (.r .nil)) (.new x0k (.cons rfl (.obj (.r (.cons (.nil x0k) (.r (.r (.r (.r .nil))))))) (.cons rfl (.refl _) (.cons rfl (.refl _) .nil))))
def q6c(k:Nat):Nat:=if k=0 then 1 else if k=1 then 0 else k
def q6t{a:AV}{n:Nat}:
  Le N ⟨[(1,.p a),(3,.ptr 2 0)],[(2,.obj 93 [.p (.ip (sheetOf p).cells),.p (AV.ofS (.slice none 0 0)),.p (AV.ofS (.slice none 0 0)),.p (AV.ofS (.slice none 0 0)),.hd 1 0 n,.hd 0 0 n]),(1,.own 22 1 (List.replicate n (AV.ofV (.slice none 0 0)))),(0,.own 22 1 (List.replicate n (AV.ofV (.slice none 0 0))))]⟩
   ⟨[(1,.p a),(3,.ptr 2 0)],[(3,Gp p 0),(2,Lw p (.hd 3 0 0) (.p .nils) (.p .nils) n),(1,YW (List.replicate n [])),(0,YW (List.replicate n []))]⟩:=by
 refine Le.trans ?_ q4c;refine q0v q6c (fun k=>by unfold q6c;split<;>(try split)<;>simp_all) (fun j m q=>by unfold q6c;rw[if_neg (by omega),if_neg (by omega)]) (.r (.r .nil)) (fun j c h=>?_) (by simp);rcases x0p.1 h with l|h
 .cases l;exact⟨_,x0k,CSub.refl _⟩
 rcases x0p.1 h with l|h
 .cases l;exact⟨_,x0f _ (x0f _ x0k),CSub.refl _⟩
 rcases x0p.1 h with l|h
 .cases l;exact⟨_,x0f _ x0k,CSub.refl _⟩
 .cases h
def Eu{W:List (List Str)}(h:k<W.length)(l:W.length=O.length):((W.take k++O.drop k).map eStrs).set k (eStrs W[k])=(W.take (k+1)++O.drop (k+1)).map eStrs:=by
 rw[<-x2y,x4d _ _ (by rw[x1f];omega),x1f,show k-min k W.length=0 by omega,x1c (by omega),x4p,x0a h,x1k];rfl
def OO{W:List (List Str)}(h:k<O.length)(l:W.length=O.length):((W.take k++O.drop k).map eStrs)[k]?=some (eStrs O[k]):=by
 rw[x0d,x2q (by rw[x1f];omega),x1f,show k-min k W.length=0 by omega,x2g,x5t,x0u h];rfl
def Ev{W:List (List Str)}(h:k<=O.length)(l:W.length=O.length):((W.take k++O.drop k).map eStrs).length=O.length:=by
 rw[x0j,x0g,x1f,x3w];omega
def q0q{W:List (List Str)}(n:k<W.length)(l:k<O.length):decide (W.take (k+1)=O.take (k+1))=(decide (W.take k=O.take k)&&decide (W[k]=O[k])):=by
 rw[x0a n,x0a l,<-Bool.decide_and];refine decide_eq_decide.2 ⟨fun h=>?_,fun h=>by rw[h.1,h.2]⟩;have m:=List.append_inj' h rfl;exact⟨m.1,by simpa using m.2⟩
def Tp(l:QE p=true)(h:OkI p I){t:S}(r:t∈YQ p):(MY (bkI p I) t).length<=1000000000:=by
 have u:=Tb t;unfold MY;split
 .rename_i n;have m:=(LF l r n).2;have v:=GE Ey t.args;have x:t.args.length*1048577<=8*1048577:=x2z _ m;have q:=h.len25 l (caI (bkI p I).s.p t).toNat;have y:(inAt (bkI p I) t).length<=25:=q;simp only[x0g];omega
 .omega
def Ic{g:FuncId}{args:List LV}{l:Option Nat}{avs:List AV}{L:List Str}{nil:Prop}(k:Nat)(u:WW k s=true)(t:SpecH P g (avs.map .p) [] (OneRow (H4 L) nil))(n:FrzL s.H args avs)(r:nil->setD N s.sl l (.p .nils) fun sl=>K ⟨sl,s.H⟩)(h:setD N s.sl l (.hd k 0 L.length) fun sl=>K ⟨sl,(k,.own 9 1 (L.map .str))::s.H⟩):CallK P N g args l s K:=
 YT k u t n r fun q e sz es m=>by
  obtain⟨rfl,rfl,rfl⟩:=m;rw[x0j];exact h
def q4k{H:Heap}{q r t:LV}{n:Nat}(d:getH H 2=some (Lw p q r t n))(u:Frz H q (.sl ((wysB p).map fun w=>.ip w.cells)))(v:Frz H r (.sl (D.map eStrs)))(x:Frz H t (.sl (U.map eStrs)))(y:Frz H (.hd 0 0 n) (.sl (I.map eStrs)))(z:Frz H (.hd 1 0 n) (.sl (O.map eStrs))):Frz H (.ptr 2 0) (.ip (Book.cells ⟨sheetOf p,wysB p,D,U,I,O⟩)):=
 Frz.ptr (off:=0) (cs:=Book.cells ⟨sheetOf p,wysB p,D,U,I,O⟩) d rfl fun j l c h m=>by
  match j,h,m with
  |0,h,m=>cases h;cases m;exact .p (Sub.refl _)
  |1,h,m=>cases h;cases m;exact u
  |2,h,m=>cases h;cases m;exact v
  |3,h,m=>cases h;cases m;exact x
  |4,h,m=>cases h;cases m;exact y
  |5,h,m=>cases h;cases m;exact z
  |j+6,h,_=>cases h
def Qk:Gp p p.A.length=.own 122 1 ((wysB p).map fun w=>.ip w.cells):=by
 unfold Gp;rw[x1w (by unfold wysB;rw[x0j,x3j];exact x0o _)]
def Qc:p.A.length=((wysB p).map fun w=>AV.ip w.cells).length:=by
 unfold wysB;rw[x0j,x0j,x3j]
def Ng{L:List (List Str)}(h:k<L.length)(l:L[k]=o):YW (L.take (k+1))=.own 22 1 ((L.take k).map eStrs++[eStrs o]):=by
 unfold YW;rw[x0a h,x0c,l];rfl
def MQ:Code->List Code
 |.seq a b=>MQ a++MQ b
 |.cond _ a b=>MQ a++MQ b
 |.block _ b=>MQ b
 |.loop b=>b::MQ b
 |_=>[]
noncomputable def q9f(k:Nat):Code:=(MQ (Tryz.f50.body.getD .skip)).getD k .skip
def q1s(M:QE p=true){R:List (List Str)}(L:OkO p O)(V:D.length=(sheetOf p).l.length)(B:U.length=(sheetOf p).l.length)(hd:∀d∈D,d.Pairwise ltT/\d.length<=1000000000)(hu:∀d∈U,d.Pairwise ltT/\d.length<=1000000000)(hIn:I.length=p.A.length)(hRn:R.length=p.A.length)(hR:∀(k:Nat)(h:k<p.A.length)(h':k<R.length),R[k]=WA (RQ p k p.A[k] D U (O.getD k []))){K:Exit->St->Prop}(hK:∀(m:Bool)(s:St),m=(!decide (R=I))->Le Tryz.f50.ntmps s ⟨[(1,.p (.ip p.cells)),(3,.ptr 2 0),(10,.p (.bool m))],[(5,YW U),(4,YW D),(3,Gp p p.A.length),(2,Lw p (.hd 3 0 p.A.length) (.hd 4 0 D.length) (.hd 5 0 U.length) p.A.length),(1,YW O),(0,YW R)]⟩->K (.exit 12) s):
  LoopK prog tab Tryz.f50.ntmps Jo (q9f 6) K ⟨[(1,.p (.ip p.cells)),(3,.ptr 2 0),(10,.p .ff),(147,.p (.int .i64 (p.A.map fun f=>AV.agg f.cells).length)),(148,.p (.int .i64 0))],[(5,YW U),(4,YW D),(3,Gp p p.A.length),(2,Lw p (.hd 3 0 p.A.length) (.hd 4 0 D.length) (.hd 5 0 (sheetOf p).l.length) p.A.length),(1,YW O),(0,YW I)]⟩:=by
 obtain⟨hg,hpl,hcn⟩:=XP M;have hpm:(p.A.map fun f=>AV.agg f.cells).length=p.A.length:=x0j _;have c:R.length=I.length:=by omega
 have hOn:=L.len;have hOl:p.A.length=(O.map eStrs).length:=by rw[x0j,L.len]
 have Y:D.length=(D.map eStrs).length:=by rw[x0j]
 refine LoopK.inv QK (fun x:Nat×Bool=>⟨[(1,.p (.ip p.cells)),(3,.ptr 2 0),(10,.p (.bool x.2)),(147,.p (.int .i64 (p.A.map fun f=>AV.agg f.cells).length)),(148,.p (.int .i64 x.1))],[(5,YW U),(4,YW D),(3,Gp p p.A.length),(2,Lw p (.hd 3 0 p.A.length) (.hd 4 0 D.length) (.hd 5 0 (sheetOf p).l.length) p.A.length),(1,YW O),(0,YW (R.take x.1++I.drop x.1))]⟩)
  (fun x=>x.1<=p.A.length/\x.2 = !decide (R.take x.1=I.take x.1)) (fun x=>p.A.length-x.1) (0,false)
  (Le.mk [] (by simp) (by simp) (by simp) (.r (.r (.cons (.p (Sub.ff rfl)) (.r (.r .nil))))) (.cons rfl (.refl _) (.cons rfl (.refl _) (.cons rfl (.refl _) (.cons rfl (.refl _) (.cons rfl (.refl _) (.cons rfl (.refl _) .nil))))))) ⟨x0l _,rfl⟩ ?_
 rintro⟨k,m⟩ ⟨hk1,u⟩;simp only at hk1 u⊢;rcases x0t k p.A.length with q|q;rotate_left 1
 .obtain rfl:k=p.A.length:=by omega
  rw[x1w (by omega),x1w (by omega)]at u;rw[x1w (by omega),x1q (by omega),x2v];conv=>whnf
  repeat' (apply bD<;>intro _<;>first|omega|conv=>whnf)
  exact hK m _ u (Le.mk [] (by simp) (by simp) (by simp) (.r (.r (.r .nil))) (.cons rfl (.refl _) (.cons rfl (.refl _) (.cons rfl (.refl _) (.cons rfl (.of_eq (by rw[B])) (.cons rfl (.refl _) (.cons rfl (.refl _) .nil)))))))
 .have e:p.A[k]?=some p.A[k]:=by simp
  have hpk:=JF e;obtain⟨o,Q⟩ : ∃o,O.getD k []=o:=⟨_,rfl⟩;have hOk:O[k]?=some o:=by rw[<-Q,x0y,x0u (by omega)];rfl
  have v:o.Pairwise ltT:=by rw[<-Q];exact DX L.rise k
  have hol25:o.length<=25:=by rw[<-Q];exact L.len25 M k
  have J:(wysB p)[k]?=some (QQ p k p.A[k]):=by rw[Ds q,hpk]
  have hN:=fun x=>Ur ⟨sheetOf p,wysB p,D,U,(R).take k++I.drop k,O⟩ p M k p.A[k] e J o hOk v (by omega) V B hd hu x;have E:=Fv ⟨sheetOf p,wysB p,D,U,(R).take k++I.drop k,O⟩ p rfl M k p.A[k] e J o hN;have y:(R)[k]'(by omega)=WA (RQ p k p.A[k] D U o):=by
   rw[hR k q (by omega),Q]
  have hol:(RQ p k p.A[k] D U o).length<=1000000000:=by
   have h1:(RQ p k p.A[k] D U o).length<=(p.D++[GP]).length:=x2l _ _;rw[x0g,x1h]at h1;omega
  have F:SpecH prog 99 ([AV.ip (Book.cells ⟨sheetOf p,wysB p,D,U,(R).take k++I.drop k,O⟩),.int .i64 k].map .p) [] (OneRow (H4 (RQ p k p.A[k] D U o)) False):=E;have t:=Eu (W:=R) (O:=I) (k:=k) (by omega) c;have C:=OO (W:=R) (O:=I) (k:=k) (by omega) c;have hln:=Ev (W:=R) (O:=I) (k:=k) (by omega) c;have n:=q0q (W:=R) (O:=I) (k:=k) (by omega) (by omega);have z:=WX ((R)[k]'(by omega)) (I[k]'(by omega));rw[y]at z t n;have Z:(sheetOf p).l.length=(U.map eStrs).length:=by rw[x0j];omega
  have g:p.A.length=(((R).take k++I.drop k).map eStrs).length:=by rw[hln];omega
  clear E y hN;generalize RQ p k p.A[k] D U o=ol at*
  generalize hdq:decide (WA ol=I[k])=dq at z n;have hdk:decide ((R).take k=I.take k) = !m:=by rw[u,Bool.not_not]
  rw[hdk]at n;cases m<;>cases dq;all_goals
   conv=>whnf
   repeat' (first|((first|refine x0h rfl ?_|refine wI ?_|refine x1i k rfl (by omega) ?_|refine x2t k 0 (eStrs I[k]) (by omega) C ?_|refine cP z ?_|refine x3p k 0 (eStrs I[k]) (eStrs (WA ol)) (by omega) C (x0o 1) rfl ?_);conv=>whnf)|(apply bD<;>intro _<;>first|omega|conv=>whnf)|(apply bB<;>intro _<;>conv=>whnf)|(refine Ic 6 rfl F (.cons (q4k rfl (.hd (x2o some Qk) Qc) (.hd rfl Y) (.hd rfl Z) (.hd rfl g) (.hd rfl hOl)) (.cons (.p (Sub.refl _)) .nil)) (fun H=>H.elim) ?_;conv=>whnf)|(refine CallK.heap [(1000,6)] 0 (x1x (x1v _) x1m) (by refine x0e (j:=6) rfl rfl ?_ ?_;exact CSub.refl _;exact x1l) (YE ol hol) rfl rfl ?_;rintro l' H' ⟨rfl,rfl⟩;conv=>whnf))
  all_goals first
   |exact absurd (show false=true by assumption) (by decide)
   |exact absurd (show true=false by assumption) (by decide)
   |exact⟨(k+1,true),⟨q,by simp only;rw[n];rfl⟩,by simp only;omega,Le.mk [] (by simp) (by simp) (by simp) (.r (.r (.cons (.p (Sub.tt rfl)) (.r (.r .nil))))) (.cons rfl (.refl _) (.cons rfl (.refl _) (.cons rfl (.refl _) (.cons rfl (.refl _) (.cons rfl (.refl _) (.cons rfl (.of_eq (x2o (Chunk.own 22 1) t)) .nil))))))⟩
   |exact⟨(k+1,true),⟨q,by simp only;rw[n];rfl⟩,by simp only;omega,Le.mk [] (by simp) (by simp) (by simp) (.r (.r (.r (.r (.r .nil))))) (.cons rfl (.refl _) (.cons rfl (.refl _) (.cons rfl (.refl _) (.cons rfl (.refl _) (.cons rfl (.refl _) (.cons rfl (.of_eq (x2o (Chunk.own 22 1) t)) .nil))))))⟩
   |exact⟨(k+1,false),⟨q,by simp only;rw[n];rfl⟩,by simp only;omega,Le.mk [] (by simp) (by simp) (by simp) (.r (.r (.r (.r (.r .nil))))) (.cons rfl (.refl _) (.cons rfl (.refl _) (.cons rfl (.refl _) (.cons rfl (.refl _) (.cons rfl (.refl _) (.cons rfl (.of_eq (x2o (Chunk.own 22 1) t)) .nil))))))⟩
   |exact⟨(k+1,false),⟨q,by simp only;rw[n];rfl⟩,by simp only;omega,Le.mk [] (by simp) (by simp) (by simp) (.r (.r (.cons (.p (Sub.ff rfl)) (.r (.r .nil))))) (.cons rfl (.refl _) (.cons rfl (.refl _) (.cons rfl (.refl _) (.cons rfl (.refl _) (.cons rfl (.refl _) (.cons rfl (.of_eq (x2o (Chunk.own 22 1) t)) .nil))))))⟩
def q4a(h:k<p.A.length)(l:k<(niB p D U O).length):(niB p D U O)[k]=WA (RQ p k p.A[k] D U (O.getD k [])):=by
 have m:k<((List.range p.A.length).map (niA p D U O)).length:=l;show((List.range p.A.length).map (niA p D U O))[k]'m=_;rw[x4e,x6y];unfold niA;rw[JF (x0u h)]
def q5z:∀(k:Nat)(h:k<p.A.length)(l:k<(rdI p D O I).length),(rdI p D O I)[k]=WA (RQ p k p.A[k] D (usB p I) (O.getD k [])):=fun _ h l=>q4a h l
def GO(p:Pg)(hf:Fit p):SpecP prog 50 [.agg p.cells] (fun r=>(QE p=true->r=.ip (QG p).cells)/\(QE p=false->r=.nilp)):=by
 refine sB Jo func50 rfl call50 ?_;conv=>whnf
 have hM:=FL p hf;cases c:QE p with
 | false=>
   rw[c]at hM;repeat' (first|(refine cP hM ?_;conv=>whnf)|(apply bN<;>intro _<;>conv=>whnf))
   all_goals first
    |contradiction
    |exact⟨_,.p (Sub.refl _),fun h=>(by cases h),fun _=>rfl⟩
 | true =>
   rw[c]at hM;obtain⟨hg,hpl,hcn⟩:=XP c;have hpm:(p.A.map fun f=>AV.agg f.cells).length=p.A.length:=x0j _;have hFl:=JI p (by omega) (by omega);repeat' (first|(refine cP hM ?_;conv=>whnf)|(apply bN<;>intro _<;>conv=>whnf))
   all_goals try contradiction
   refine X1 ⟨[(1,.p (.ip p.cells)),(3,.ptr 2 0)],[(3,Gp p 0),(2,Lw p (.hd 3 0 0) (.p .nils) (.p .nils) p.A.length),(1,YW (List.replicate p.A.length [])),(0,YW (List.replicate p.A.length []))]⟩ ?_ ?_
   .refine DrawK.of QK mixed (.cons 0 false (.cons 2 false (.cons 3 false (.cons 4 false (.cons 6 false (.cons 7 false (.cons 8 false (.fork3 1 (.fork 5 (.cons 9 true (.cons 10 true (.cons 11 true (.cons 12 true .nil)))) 9 (.cons 5 true (.cons 10 true (.cons 11 true (.cons 12 true .nil))))) 5 (.fork 1 (.cons 9 true (.cons 10 true (.cons 11 true (.cons 12 true .nil)))) 9 (.cons 1 true (.cons 10 true (.cons 11 true (.cons 12 true .nil))))) 9 (.fork 1 (.cons 5 true (.cons 10 true (.cons 11 true (.cons 12 true .nil)))) 5 (.cons 1 true (.cons 10 true (.cons 11 true (.cons 12 true .nil))))))))))))) (by kernel_rfl) ?_;conv=>whnf
    repeat' (first|((first|(refine iM fun _=>?_)|refine x0h rfl ?_|refine aR ?_|refine cP hFl ?_|refine x5r p.A.length (by rw[hpm]) (by show 24*_<=140737488355328;omega) (by unfold maxLen;omega) ?_);conv=>whnf)|(refine x0h ?_ ?_<;>conv=>whnf))
    all_goals first
     |exact q4c
     |exact q6t
   conv=>whnf
   repeat' (refine iM fun _=>?_;conv=>whnf)
   have hnW:(wysB p).length=p.A.length:=by unfold wysB;rw[x0j,x3j]
   refine LoopK.inv QK (fun k:Nat=>⟨[(1,.p (.ip p.cells)),(3,.ptr 2 0),(32,.p (.int .i64 (p.A.map fun f=>AV.agg f.cells).length)),(33,.p (.int .i64 k))],[(3,Gp p k),(2,Lw p (.hd 3 0 k) (.p .nils) (.p .nils) p.A.length),(1,YW (List.replicate p.A.length [])),(0,YW (List.replicate p.A.length []))]⟩) (fun k=>k<=p.A.length) (fun k=>p.A.length-k) 0 (Le.of_eq rfl) (x0l _) ?_;intro k hk;rcases x0t k p.A.length with n|n
   .have F:p.A[k]?=some p.A[k]:=by simp
    obtain⟨w1,w2,w3⟩:=Xj c F;have hWn:=Ep p k p.A[k] F (by omega) w1 w3;have hwl:(((wysB p).take k).map fun w=>AV.ip w.cells).length=k:=by rw[x0j,x1f,hnW];omega
    have H:Gp p (k+1)=.own 122 1 ((((wysB p).take k).map fun w=>AV.ip w.cells)++[.ip (QQ p k p.A[k]).cells]):=by
     unfold Gp;rw[x0a (by rw[hnW];exact n),x0c];have e:(wysB p)[k]'(by rw[hnW];exact n)=QQ p k p.A[k]:=by
      have v:=Ds n;rw[x0u (by rw[hnW];exact n),JF F]at v;exact x3h v
     rw[e];rfl
    conv=>whnf
    repeat' (first|((first|refine dA ?_|refine x0h rfl ?_|refine aD ?_|refine bP ?_|refine wI ?_|refine cP hWn ?_|refine x4n hwl.symm rfl (by show(k+1)*8<=140737488355328;omega) (by show k+1<=9223372036854775807;omega) (fun x hx=>by rcases x0b.1 hx with rfl;exact⟨rfl,rfl⟩) ?_);conv=>whnf)|(apply bD<;>intro _<;>first|omega|conv=>whnf)|(refine x0h ?_ ?_<;>conv=>whnf))
    all_goals first
     |exact⟨k+1,n,by omega,Le.of_eq (by rw[H];rfl)⟩
   .obtain rfl:k=p.A.length:=by omega
    conv=>whnf
    repeat' (apply bD<;>intro _<;>first|omega|conv=>whnf)
    refine LoopK.inv QK (fun x:Bool×List (List Str)×List (List Str)=>⟨[(1,.p (.ip p.cells)),(3,.ptr 2 0),(5,.p (.bool x.1))],[(4,YW x.2.1),(3,Gp p p.A.length),(2,Lw p (.hd 3 0 p.A.length) (.hd 4 0 x.2.1.length) (.p .nils) p.A.length),(1,YW x.2.2),(0,YW (List.replicate p.A.length []))]⟩)
     (fun x=>(∃r,x.2.2=itO p r)/\(x.1=false->rdO p x.2.2=x.2.2/\x.2.1=dfB p x.2.2)) (fun x=>2*(400-tot x.2.2)+x.1.toNat) (true,[],List.replicate p.A.length [])
     (Le.mk [(4,YW [])] (by simp[Chunk.new0,YW];rfl) (by simp) (by simp) (.r (.r (.cons (.p (Sub.tt rfl)) .nil))) (.new x0k (.cons rfl (.refl _) (.cons rfl (.obj (.r (.r (.cons (.nil x0k) (.r (.r (.r .nil))))))) (.cons rfl (.refl _) (.cons rfl (.refl _) .nil)))))) ⟨⟨0,rfl⟩,fun h=>by cases h⟩ ?_
    rintro⟨m,D,O⟩ ⟨⟨r,hr⟩,hm⟩;simp only at hr hm⊢;have Q:=Y2 p r;rw[<-hr]at Q;cases m with
    | false =>
      obtain⟨hf1,hf2⟩:=hm rfl;conv=>whnf
      repeat' (refine Br.ff ?_;conv=>whnf)
      subst hf2;have hfixO:=hf1;clear hm hf1;have J:=F9 p O;have V:∀d∈dfB p O,d.Pairwise ltT/\d.length<=1000000000:=fun d V=>by
       obtain⟨it,hi,rfl⟩:=x0n.1 V;have v:=UI (MF (bkO p O) it.s);have Z:=LM c Q (t:=it.s) (by rw[<-YJ];exact x0n.2 ⟨_,hi,rfl⟩);exact⟨ZJ _,by omega⟩
      have hOn:=Q.len;obtain⟨D,hD⟩ : ∃D,dfB p O=D:=⟨_,rfl⟩;rw[hD]at J V⊢;have hBk:∀I,(∃r,I=itI p D O r)->rdI p D O I=I->QG p=⟨sheetOf p,wysB p,D,usB p I,I,O⟩:=fun I v Z=>by
       have hB:BookR p ⟨sheetOf p,wysB p,D,usB p I,I,O⟩:=⟨rfl,rfl,⟨r,hr⟩,hfixO,hD.symm,v,Z,rfl⟩;exact hB.eq.symm
      refine LoopK.inv QK (fun x:Bool×List (List Str)×List (List Str)=>⟨[(1,.p (.ip p.cells)),(3,.ptr 2 0),(10,.p (.bool x.1))],[(5,YW x.2.1),(4,YW D),(3,Gp p p.A.length),(2,Lw p (.hd 3 0 p.A.length) (.hd 4 0 D.length) (.hd 5 0 x.2.1.length) p.A.length),(1,YW O),(0,YW x.2.2)]⟩)
       (fun x=>(∃r,x.2.2=itI p D O r)/\(x.1=false->rdI p D O x.2.2=x.2.2/\x.2.1=usB p x.2.2)) (fun x=>2*(400-tot x.2.2)+x.1.toNat) (true,[],List.replicate p.A.length [])
       (Le.mk [(5,YW [])] (by simp[Chunk.new0,YW];rfl) (by simp) (by simp) (.r (.r (.cons (.p (Sub.tt rfl)) .nil))) (.new x0k (.cons rfl (.refl _) (.cons rfl (.refl _) (.cons rfl (.obj (.r (.r (.r (.cons (.nil x0k) (.r (.r .nil))))))) (.cons rfl (.refl _) (.cons rfl (.refl _) .nil))))))) ⟨⟨0,rfl⟩,fun h=>by cases h⟩ ?_
      rintro⟨m,U,I⟩ ⟨⟨q,hq⟩,hm⟩;simp only at hq hm⊢;have hI:=Y1 p D O q;rw[<-hq]at hI;have M:p.A.length=(O.map eStrs).length:=by rw[x0j,Q.len]
      have hKD:D.length=(D.map eStrs).length:=by rw[x0j]
      cases m with
      | false=>
        obtain⟨hf1,rfl⟩:=hm rfl;have hbk:=hBk I ⟨q,hq⟩ hf1;have g:p.A.length=(I.map eStrs).length:=by rw[x0j,hI.len]
        have hKU:(usB p I).length=((usB p I).map eStrs).length:=by rw[x0j]
        conv=>whnf
        repeat' (refine Br.ff ?_;conv=>whnf)
        all_goals first
         |exact⟨_,q4k rfl (.hd (x2o some Qk) Qc) (.hd rfl hKD) (.hd rfl hKU) (.hd rfl g) (.hd rfl M),fun _=>by rw[hbk],fun h=>by cases h⟩
      | true=>
        have hLl:((sheetOf p).l.map fun i=>AV.agg i.cells).length=(sheetOf p).l.length:=x0j _;obtain⟨_,_,_,hsl,_⟩:=QJ p;have hUl:(usB p I).length=(sheetOf p).l.length:=x0j _;have g:p.A.length=(I.map eStrs).length:=by rw[x0j,hI.len]
        conv=>whnf
        repeat' ((first|(refine iM fun _=>?_)|refine x0h rfl ?_|refine Br.tt ?_);conv=>whnf)
        refine LoopK.inv QK (fun k:Nat=>⟨[(1,.p (.ip p.cells)),(3,.ptr 2 0),(10,.p .ff),(124,.p (VC (sheetOf p).l)),(125,.p (.int .i64 ((sheetOf p).l.map fun i=>AV.agg i.cells).length)),(126,.p (.int .i64 k))],[(5,YW ((usB p I).take k)),(4,YW D),(3,Gp p p.A.length),(2,Lw p (.hd 3 0 p.A.length) (.hd 4 0 D.length) (.hd 5 0 k) p.A.length),(1,YW O),(0,YW I)]⟩) (fun k=>k<=(sheetOf p).l.length) (fun k=>(sheetOf p).l.length-k) 0
         (Le.trans (s':=⟨[(1,.p (.ip p.cells)),(3,.ptr 2 0),(10,.p .ff),(124,.p (VC (sheetOf p).l)),(125,.p (.int .i64 ((sheetOf p).l.map fun i=>AV.agg i.cells).length)),(126,.p (.int .i64 (0:Nat)))],[(4,YW D),(3,Gp p p.A.length),(2,Lw p (.hd 3 0 p.A.length) (.hd 4 0 D.length) (.p .nils) p.A.length),(1,YW O),(0,YW I)]⟩) (lE) (Le.mk [(5,YW [])] (by simp[Chunk.new0,YW];rfl) (by simp) (by simp) (.r (.r (.r (.r (.r (.r .nil)))))) (.new x0k (.cons rfl (.refl _) (.cons rfl (.refl _) (.cons rfl (.obj (.r (.r (.r (.cons (.nil x0k) (.r (.r .nil))))))) (.cons rfl (.refl _) (.cons rfl (.refl _) .nil)))))))) (x0l _) ?_
        intro k hk;rcases x0t k (sheetOf p).l.length with n|n;rotate_left 1
        .obtain rfl:k=(sheetOf p).l.length:=by omega
         have R:(rdI p D O I).length=I.length:=by rw[hI.len];unfold rdI niB;rw[x0j,x3j]
         have hIn:=hI.len;rw[show(usB p I).take (sheetOf p).l.length=usB p I from x1w (by omega)];have hu:∀d∈usB p I,d.Pairwise ltT/\d.length<=1000000000:=fun d V=>by
          obtain⟨it,hi,rfl⟩:=x0n.1 V;have v:=UI (MY (bkI p I) it.s);have Z:=Tp c hI (t:=it.s) (by rw[<-YJ];exact x0n.2 ⟨_,hi,rfl⟩);exact⟨ZJ _,by omega⟩
         conv=>whnf
         repeat' (first|(refine iM fun _=>?_;conv=>whnf)|(apply bD<;>intro _<;>first|omega|conv=>whnf))
         have hW:rdI p D O I=itI p D O (q+1):=by rw[hq];rfl
         refine q1s c Q J hUl V hu hIn (R.trans hIn) q5z fun m s u hle=>?_;conv=>whnf
         refine⟨(m,usB p I,rdI p D O I),⟨⟨q+1,hW⟩,fun h=>?_⟩,?_,hle⟩
         .simp only at h⊢;rw[h]at u;have v:rdI p D O I=I:=by simpa using u
          rw[v];exact⟨v,rfl⟩
         .simp only;have hOW:tot (rdI p D O I)<=400:=(OB p D (usB p I) O).tot c;cases m with
          | true=>
            have v:rdI p D O I≠I:=by simpa using u
            have Z:=RW c (D:=D) (O:=O) (k:=q) (by rw[<-hW,<-hq];exact v);rw[<-hW,<-hq]at Z;simp only[Bool.toNat_true];omega
          | false=>
            have v:rdI p D O I=I:=by simpa using u
            rw[v];simp only[Bool.toNat_true,Bool.toNat_false];omega
        have y:(sheetOf p).l[k].s∈YQ p:=by rw[<-YJ];exact x0n.2 ⟨_,x0s n,rfl⟩
        have B:k=(((usB p I).take k).map eStrs).length:=by rw[x0j,x1f];omega
        have C:=Jm ⟨sheetOf p,wysB p,D,(usB p I).take k,I,O⟩ (sheetOf p).l[k].s (fun h4=>hI.use c rfl rfl y h4);rw[Ej (p:=p) (I:=I) rfl rfl]at C;have hd1:SpecH prog 98 ([AV.ip (Book.cells ⟨sheetOf p,wysB p,D,(usB p I).take k,I,O⟩),.agg (sheetOf p).l[k].s.cells].map .p) [] (OneRow (H4 (MY (bkI p I) (sheetOf p).l[k].s)) (MY (bkI p I) (sheetOf p).l[k].s=[])):=C;have hdl:=Tp c hI y;have H:=Ng (L:=usB p I) (k:=k) (by omega) (o:=WA (MY (bkI p I) (sheetOf p).l[k].s)) (by unfold usB;rw[x4e]);generalize hds:MY (bkI p I) (sheetOf p).l[k].s=ds at*
        clear C;conv=>whnf
        repeat' (first|((first|refine dA ?_|refine x0h rfl ?_|refine aD ?_|refine bP ?_|(refine iA fun _=>?_)|refine wI ?_|refine x4n B rfl (by show(k+1)*24<=140737488355328;omega) (by show k+1<=9223372036854775807;omega) (fun x hx=>by rcases x0b.1 hx with rfl;exact⟨rfl,rfl⟩) ?_);conv=>whnf)|(apply bD<;>intro _<;>first|omega|conv=>whnf)|(refine Ic 6 rfl hd1 (.cons (q4k rfl (.hd (x2o some Qk) Qc) (.hd rfl hKD) (.hd rfl B) (.hd rfl g) (.hd rfl M)) (.cons (.p (Sub.refl _)) .nil)) (fun z=>?_) ?_<;>conv=>whnf)|(refine CallK.nil 6 9 1 rfl (.row .nil) ?_;refine CallK.heap [(1000,6)] 0 (x1x (x1v _) x1m) (by refine x0e (j:=6) rfl rfl ?_ ?_;exact CSub.refl _;exact x1l) (YE [] (by simp)) rfl rfl ?_;rintro l' H' ⟨rfl,rfl⟩;conv=>whnf)|(refine CallK.heap [(1000,6)] 0 (x1x (x1v _) x1m) (by refine x0e (j:=6) rfl rfl ?_ ?_;exact CSub.refl _;exact x1l) (YE ds (by omega)) rfl rfl ?_;rintro l' H' ⟨rfl,rfl⟩;conv=>whnf)|(refine x0h ?_ ?_<;>conv=>whnf))
        all_goals first
         |exact⟨k+1,n,by omega,Le.of_eq (by rw[H,z];rfl)⟩
         |exact⟨k+1,n,by omega,Le.of_eq (by rw[H];rfl)⟩
    | true =>
      have hLl:((sheetOf p).l.map fun i=>AV.agg i.cells).length=(sheetOf p).l.length:=x0j _;obtain⟨_,_,_,hsl,_⟩:=QJ p;conv=>whnf
      repeat' ((first|(refine iM fun _=>?_)|refine x0h rfl ?_|refine Br.tt ?_);conv=>whnf)
      refine LoopK.inv QK (fun k:Nat=>⟨[(1,.p (.ip p.cells)),(3,.ptr 2 0),(5,.p .ff),(62,.p (VC (sheetOf p).l)),(63,.p (.int .i64 ((sheetOf p).l.map fun i=>AV.agg i.cells).length)),(64,.p (.int .i64 k))],[(4,YW ((dfB p O).take k)),(3,Gp p p.A.length),(2,Lw p (.hd 3 0 p.A.length) (.hd 4 0 k) (.p .nils) p.A.length),(1,YW O),(0,YW (List.replicate p.A.length []))]⟩) (fun k=>k<=(sheetOf p).l.length) (fun k=>(sheetOf p).l.length-k) 0
       (Le.trans (s':=⟨[(1,.p (.ip p.cells)),(3,.ptr 2 0),(5,.p .ff),(62,.p (VC (sheetOf p).l)),(63,.p (.int .i64 ((sheetOf p).l.map fun i=>AV.agg i.cells).length)),(64,.p (.int .i64 (0:Nat)))],[(3,Gp p p.A.length),(2,Lw p (.hd 3 0 p.A.length) (.p .nils) (.p .nils) p.A.length),(1,YW O),(0,YW (List.replicate p.A.length []))]⟩) (lE) (Le.mk [(4,YW [])] (by simp[Chunk.new0,YW];rfl) (by simp) (by simp) (.r (.r (.r (.r (.r (.r .nil)))))) (.new x0k (.cons rfl (.refl _) (.cons rfl (.obj (.r (.r (.cons (.nil x0k) (.r (.r (.r .nil))))))) (.cons rfl (.refl _) (.cons rfl (.refl _) .nil))))))) (x0l _) ?_
      intro k hk;rcases x0t k (sheetOf p).l.length with n|n;rotate_left 1
      .obtain rfl:k=(sheetOf p).l.length:=by omega
       have J:=F9 p O;have R:(rdO p O).length=O.length:=by rw[Q.len];unfold rdO otB;rw[x0j,x3j]
       have hOn:=Q.len;rw[show(dfB p O).take (sheetOf p).l.length=dfB p O from x1w (by omega)];have V:∀d∈dfB p O,d.length<=1000:=fun d V=>by
        obtain⟨it,hi,rfl⟩:=x0n.1 V;have v:=UI (MF (bkO p O) it.s);have Z:=LM c Q (t:=it.s) (by rw[<-YJ];exact x0n.2 ⟨_,hi,rfl⟩);omega
       conv=>whnf
       repeat' (first|(refine iM fun _=>?_;conv=>whnf)|(apply bD<;>intro _<;>first|omega|conv=>whnf))
       refine LoopK.inv QK (fun x:Nat×Bool=>⟨[(1,.p (.ip p.cells)),(3,.ptr 2 0),(5,.p (.bool x.2)),(85,.p (.int .i64 (p.A.map fun f=>AV.agg f.cells).length)),(86,.p (.int .i64 x.1))],[(4,YW (dfB p O)),(3,Gp p p.A.length),(2,Lw p (.hd 3 0 p.A.length) (.hd 4 0 (sheetOf p).l.length) (.p .nils) p.A.length),(1,YW ((rdO p O).take x.1++O.drop x.1)),(0,YW (List.replicate p.A.length []))]⟩)
        (fun x=>x.1<=p.A.length/\x.2 = !decide ((rdO p O).take x.1=O.take x.1)) (fun x=>p.A.length-x.1) (0,false)
        (Le.mk [] (by simp) (by simp) (by simp) (.r (.r (.cons (.p (Sub.ff rfl)) (.r (.r .nil))))) (.cons rfl (.refl _) (.cons rfl (.refl _) (.cons rfl (.refl _) (.cons rfl (.refl _) (.cons rfl (.refl _) .nil)))))) ⟨x0l _,rfl⟩ ?_
       rintro⟨k,m⟩ ⟨hk1,u⟩;simp only at hk1 u⊢;rcases x0t k p.A.length with n|n;rotate_left 1
       .obtain rfl:k=p.A.length:=by omega
        rw[x1w (by omega),x1w (by omega)]at u;rw[x1w (by omega),x1q (by omega),x2v];have hW:rdO p O=itO p (r+1):=by rw[hr];rfl
        conv=>whnf
        repeat' (apply bD<;>intro _<;>first|omega|conv=>whnf)
        refine⟨(m,dfB p O,rdO p O),⟨⟨r+1,hW⟩,fun h=>?_⟩,?_,Le.mk [] (by simp) (by simp) (by simp) (.r (.r (.r .nil))) (.cons rfl (.refl _) (.cons rfl (.refl _) (.cons rfl (.of_eq (by rw[J])) (.cons rfl (.refl _) (.cons rfl (.refl _) .nil)))))⟩
        .simp only at h⊢;rw[h]at u;have v:rdO p O=O:=by simpa using u
         rw[v];exact⟨v,rfl⟩
        .simp only;have hOW:=(ON p (dfB p O)).tot c;have hOW:tot (rdO p O)<=400:=hOW;cases m with
         | true=>
           have v:rdO p O≠O:=by simpa using u
           have Z:=RV (p:=p) (k:=r) (by rw[<-hW,<-hr];exact v);rw[<-hW,<-hr]at Z;simp only[Bool.toNat_true];omega
         | false=>
           have v:rdO p O=O:=by simpa using u
           rw[v];simp only[Bool.toNat_true,Bool.toNat_false];omega
       have F:p.A[k]?=some p.A[k]:=by simp
       have hpk:=JF F;have hWk:wysB p=(wysB p):=rfl;have hout:=Jn ⟨sheetOf p,wysB p,dfB p O,[],List.replicate p.A.length [],(rdO p O).take k++O.drop k⟩ p rfl c k p.A[k] F (by show(wysB p)[k]?=_;rw[Ds n,hpk]) J V;have hrow:(rdO p O)[k]'(by omega)=WA (M5 p k p.A[k] (dfB p O) (itsOf p k p.A[k])):=by
        unfold rdO otB;rw[x4e,x6y];unfold otA;rw[hpk]
       have hol:(M5 p k p.A[k] (dfB p O) (itsOf p k p.A[k])).length<=1000000000:=by
        have v:=RM (p:=p) (i:=k) (f:=p.A[k]) V (itsOf p k p.A[k]);have Z:(itsOf p k p.A[k]).length<=200:=by
         obtain⟨_,_,_,_,hsp⟩:=QJ p;obtain⟨_,_,h3,h4⟩:=hsp k _ F;have h5:=x2o List.length h4;rw[x3w,x1f]at h5;have e1:itL (k:Nat) 0 (-1) 0 (QR p.A k) p.A[k].body=itsOf p k p.A[k]:=rfl;rw[e1]at h5;omega
        have h3:(itsOf p k p.A[k]).length*1000<=200*1000:=x2z _ Z;omega
       have hout1:SpecH prog 96 ([AV.ip (Book.cells ⟨sheetOf p,wysB p,dfB p O,[],List.replicate p.A.length [],(rdO p O).take k++O.drop k⟩),.int .i64 k].map .p) [] (OneRow (H4 (M5 p k p.A[k] (dfB p O) (itsOf p k p.A[k]))) False):=hout;have Y:=Eu (W:=rdO p O) (O:=O) (k:=k) (by omega) R;have hat:=OO (W:=rdO p O) (O:=O) (k:=k) (by omega) R;have hln:=Ev (W:=rdO p O) (O:=O) (k:=k) (by omega) R;have E:=q0q (W:=rdO p O) (O:=O) (k:=k) (by omega) (by omega);have hEq:=WX ((rdO p O)[k]'(by omega)) (O[k]'(by omega));rw[hrow]at hEq Y E;have B:(sheetOf p).l.length=((dfB p O).map eStrs).length:=by rw[x0j];omega
       have M:p.A.length=(((rdO p O).take k++O.drop k).map eStrs).length:=by rw[hln];omega
       have g:p.A.length=((List.replicate p.A.length ([]:List Str)).map eStrs).length:=by rw[x0j,x2d]
       clear hout hrow;generalize M5 p k p.A[k] (dfB p O) (itsOf p k p.A[k])=ol at*
       generalize hdq:decide (WA ol=O[k])=dq at hEq E;have hdk:decide ((rdO p O).take k=O.take k) = !m:=by rw[u,Bool.not_not]
       rw[hdk]at E;cases m<;>cases dq;all_goals
        conv=>whnf
        repeat' (first|((first|refine x0h rfl ?_|refine wI ?_|refine x1i k rfl (by omega) ?_|refine x2t k 0 (eStrs O[k]) (by omega) hat ?_|refine cP hEq ?_|refine x3p k 0 (eStrs O[k]) (eStrs (WA ol)) (by omega) hat (x0o 1) rfl ?_);conv=>whnf)|(apply bD<;>intro _<;>first|omega|conv=>whnf)|(apply bB<;>intro _<;>conv=>whnf)|(refine Ic 5 rfl hout1 (.cons (q4k rfl (.hd (x2o some Qk) Qc) (.hd rfl B) (.p Sub.nils) (.hd rfl g) (.hd rfl M)) (.cons (.p (Sub.refl _)) .nil)) (fun z=>z.elim) ?_;conv=>whnf)|(refine CallK.heap [(1000,5)] 0 (x1x (x1v _) x1m) (by refine x0e (j:=5) rfl rfl ?_ ?_;exact CSub.refl _;exact x1l) (YE ol hol) rfl rfl ?_;rintro l' H' ⟨rfl,rfl⟩;conv=>whnf))
       all_goals first
        |exact absurd (show false=true by assumption) (by decide)
        |exact absurd (show true=false by assumption) (by decide)
        |exact⟨(k+1,true),⟨n,by simp only;rw[E];rfl⟩,by simp only;omega,Le.mk [] (by simp) (by simp) (by simp) (.r (.r (.cons (.p (Sub.tt rfl)) (.r (.r .nil))))) (.cons rfl (.refl _) (.cons rfl (.refl _) (.cons rfl (.refl _) (.cons rfl (.of_eq (x2o (Chunk.own 22 1) Y)) (.cons rfl (.refl _) .nil)))))⟩
        |exact⟨(k+1,true),⟨n,by simp only;rw[E];rfl⟩,by simp only;omega,Le.mk [] (by simp) (by simp) (by simp) (.r (.r (.r (.r (.r .nil))))) (.cons rfl (.refl _) (.cons rfl (.refl _) (.cons rfl (.refl _) (.cons rfl (.of_eq (x2o (Chunk.own 22 1) Y)) (.cons rfl (.refl _) .nil)))))⟩
        |exact⟨(k+1,false),⟨n,by simp only;rw[E];rfl⟩,by simp only;omega,Le.mk [] (by simp) (by simp) (by simp) (.r (.r (.r (.r (.r .nil))))) (.cons rfl (.refl _) (.cons rfl (.refl _) (.cons rfl (.refl _) (.cons rfl (.of_eq (x2o (Chunk.own 22 1) Y)) (.cons rfl (.refl _) .nil)))))⟩
        |exact⟨(k+1,false),⟨n,by simp only;rw[E];rfl⟩,by simp only;omega,Le.mk [] (by simp) (by simp) (by simp) (.r (.r (.cons (.p (Sub.ff rfl)) (.r (.r .nil))))) (.cons rfl (.refl _) (.cons rfl (.refl _) (.cons rfl (.refl _) (.cons rfl (.of_eq (x2o (Chunk.own 22 1) Y)) (.cons rfl (.refl _) .nil)))))⟩
      have y:(sheetOf p).l[k].s∈YQ p:=by rw[<-YJ];exact x0n.2 ⟨_,x0s n,rfl⟩
      have J:=F9 p O;have B:k=(((dfB p O).take k).map eStrs).length:=by rw[x0j,x1f];omega
      have M:p.A.length=(O.map eStrs).length:=by rw[x0j,Q.len]
      have g:p.A.length=((List.replicate p.A.length ([]:List Str)).map eStrs).length:=by rw[x0j,x2d]
      have C:=Jp ⟨sheetOf p,wysB p,(dfB p O).take k,[],List.replicate p.A.length [],O⟩ (sheetOf p).l[k].s (fun h4=>Q.call c rfl rfl y h4);rw[C6 rfl rfl]at C;have hd1:SpecH prog 95 ([AV.ip (Book.cells ⟨sheetOf p,wysB p,(dfB p O).take k,[],List.replicate p.A.length [],O⟩),.agg (sheetOf p).l[k].s.cells].map .p) [] (OneRow (H4 (MF (bkO p O) (sheetOf p).l[k].s)) (MF (bkO p O) (sheetOf p).l[k].s=[])):=C;have hdl:=LM c Q y;have H:=Ng (L:=dfB p O) (k:=k) (by omega) (o:=WA (MF (bkO p O) (sheetOf p).l[k].s)) (by unfold dfB;rw[x4e]);generalize hds:MF (bkO p O) (sheetOf p).l[k].s=ds at*
      clear C;conv=>whnf
      repeat' (first|((first|refine dA ?_|refine x0h rfl ?_|refine aD ?_|refine bP ?_|(refine iA fun _=>?_)|refine wI ?_|refine x4n B rfl (by show(k+1)*24<=140737488355328;omega) (by show k+1<=9223372036854775807;omega) (fun x hx=>by rcases x0b.1 hx with rfl;exact⟨rfl,rfl⟩) ?_);conv=>whnf)|(apply bD<;>intro _<;>first|omega|conv=>whnf)|(refine Ic 5 rfl hd1 (.cons (q4k rfl (.hd (x2o some Qk) Qc) (.hd rfl B) (.p Sub.nils) (.hd rfl g) (.hd rfl M)) (.cons (.p (Sub.refl _)) .nil)) (fun z=>?_) ?_<;>conv=>whnf)|(refine CallK.nil 5 9 1 rfl (.row .nil) ?_;refine CallK.heap [(1000,5)] 0 (x1x (x1v _) x1m) (by refine x0e (j:=5) rfl rfl ?_ ?_;exact CSub.refl _;exact x1l) (YE [] (by simp)) rfl rfl ?_;rintro l' H' ⟨rfl,rfl⟩;conv=>whnf)|(refine CallK.heap [(1000,5)] 0 (x1x (x1v _) x1m) (by refine x0e (j:=5) rfl rfl ?_ ?_;exact CSub.refl _;exact x1l) (YE ds (by omega)) rfl rfl ?_;rintro l' H' ⟨rfl,rfl⟩;conv=>whnf)|(refine x0h ?_ ?_<;>conv=>whnf))
      all_goals first
       |exact⟨k+1,n,by omega,Le.of_eq (by rw[H,z];rfl)⟩
       |exact⟨k+1,n,by omega,Le.of_eq (by rw[H];rfl)⟩
def VI(p:Pg)(n:Str):Int:=Xr (fun f=>f.name==n) p.A
noncomputable def Qu(p:Pg)(n:Str):List Str:=if QE p=true/\0<=VI p n then(QG p).P.getD (VI p n).toNat []else []
noncomputable def L2(p:Pg)(n:Str):List Str:=if QE p=true/\0<=VI p n then(QG p).ins.getD (VI p n).toNat []else []
noncomputable def GU(p:Pg)(id:Int):List Str:=if QE p=true/\1<=id/\id<=(sheetOf p).l.length then(QG p).G.getD (id-1).toNat []else []
noncomputable def KS(p:Pg)(id:Int):List Str:=if QE p=true/\1<=id/\id<=(sheetOf p).l.length then(QG p).N.getD (id-1).toNat []else []
def Ym{n:Str}(h:0<=VI p n):(VI p n).toNat<p.A.length:=by
 unfold VI Xr at h⊢;cases l:p.A.any fun f=>f.name==n with
 | true=>
   rw[x1u];obtain⟨x,m,q⟩:=x2e.1 l;have:=List.findIdx_lt_length_of_exists (p:=fun f:Pr=>f.name==n) ⟨x,m,q⟩;simpa using this
 | false=>
   rw[l,x1g]at h;omega
def D8(h:k<O.length):(O.map eStrs)[k]?=some (eStrs (O.getD k [])):=by
 rw[x0d,x0y,x0u h];rfl
def Ke(p:Pg)(g:Fit p)(n:Str):SpecP prog 21 [.agg p.cells,.str n] (fun r=>r=eStrs (Qu p n)):=by
 refine sB B7 func21 rfl call21 ?_;conv=>whnf
 have z:=GO p g;cases t:QE p with
 | false=>
   have e:Qu p n=[]:=by unfold Qu;rw[if_neg (by rw[t];simp)]
   rw[e];have l:=z.mono (R':=fun r=>r=.nilp) fun r y=>y.2 t;repeat' (refine cP l ?_;conv=>whnf)
   all_goals first
    |contradiction
    |exact⟨_,.p Sub.nils,rfl⟩
 | true=>
   have l:=z.mono (R':=fun r=>r=.ip (QG p).cells) fun r y=>y.1 t;have d:=ZC t;have c:=(GS t).1.len;have A:(QG p).s.p=p:=by rw[d.s];exact(QJ p).1
   have u:=XZ (QG p).s n;rw[A]at u;have q:SpecP prog 51 [.ip (QG p).s.cells,.str n] (fun r=>r=.int .i64 (VI p n)):=u;have x:=fun h=>Ym (p:=p) (n:=n) h;have v:=fun h=>D8 (O:=(QG p).P) (k:=(VI p n).toNat) (by rw[c];exact x h);have e:Qu p n=if 0<=VI p n then(QG p).P.getD (VI p n).toNat []else []:=by
    unfold Qu;by_cases m:0<=VI p n
    .rw [if_pos ⟨t,m⟩,if_pos m]
    .rw [if_neg (fun h=>m h.2),if_neg m]
   rw[e];generalize VI p n=i at*
   generalize QG p=b at*
   by_cases m:0<=i
   .rw [if_pos m];have v:=v m;repeat' (first|((first|refine dA ?_|refine cP l ?_|refine cP q ?_|(refine IdxK.at (k:=i.toNat) (by omega) v rfl ?_));conv=>whnf)|(apply bD<;>intro _<;>first|omega|conv=>whnf))
    all_goals first
     |contradiction
     |exact RetK.p rfl
     |exact⟨_,.p (Sub.refl _),rfl⟩
   .rw [if_neg m];repeat' (first|((first|refine cP l ?_|refine cP q ?_);conv=>whnf)|(apply bD<;>intro _<;>first|omega|conv=>whnf))
    all_goals first
     |contradiction
     |exact⟨_,.p Sub.nils,rfl⟩
def CX(p:Pg)(g:Fit p)(n:Str):SpecP prog 23 [.agg p.cells,.str n] (fun r=>r=eStrs (L2 p n)):=by
 refine sB Mu func23 rfl call23 ?_;conv=>whnf
 have z:=GO p g;cases t:QE p with
 | false=>
   have e:L2 p n=[]:=by unfold L2;rw[if_neg (by rw[t];simp)]
   rw[e];have l:=z.mono (R':=fun r=>r=.nilp) fun r y=>y.2 t;repeat' (refine cP l ?_;conv=>whnf)
   all_goals first
    |contradiction
    |exact⟨_,.p Sub.nils,rfl⟩
 | true=>
   have l:=z.mono (R':=fun r=>r=.ip (QG p).cells) fun r y=>y.1 t;have d:=ZC t;have c:=(GS t).2.len;have A:(QG p).s.p=p:=by rw[d.s];exact(QJ p).1
   have u:=XZ (QG p).s n;rw[A]at u;have q:SpecP prog 51 [.ip (QG p).s.cells,.str n] (fun r=>r=.int .i64 (VI p n)):=u;have x:=fun h=>Ym (p:=p) (n:=n) h;have v:=fun h=>D8 (O:=(QG p).ins) (k:=(VI p n).toNat) (by rw[c];exact x h);have e:L2 p n=if 0<=VI p n then(QG p).ins.getD (VI p n).toNat []else []:=by
    unfold L2;by_cases m:0<=VI p n
    .rw [if_pos ⟨t,m⟩,if_pos m]
    .rw [if_neg (fun h=>m h.2),if_neg m]
   rw[e];generalize VI p n=i at*
   generalize QG p=b at*
   by_cases m:0<=i
   .rw [if_pos m];have v:=v m;repeat' (first|((first|refine dA ?_|refine cP l ?_|refine cP q ?_|(refine IdxK.at (k:=i.toNat) (by omega) v rfl ?_));conv=>whnf)|(apply bD<;>intro _<;>first|omega|conv=>whnf))
    all_goals first
     |contradiction
     |exact RetK.p rfl
     |exact⟨_,.p (Sub.refl _),rfl⟩
   .rw [if_neg m];repeat' (first|((first|refine cP l ?_|refine cP q ?_);conv=>whnf)|(apply bD<;>intro _<;>first|omega|conv=>whnf))
    all_goals first
     |contradiction
     |exact⟨_,.p Sub.nils,rfl⟩
def Ka(p:Pg)(d:Fit p)(id:Int):SpecP prog 25 [.agg p.cells,.int .i64 id] (fun r=>r=eStrs (GU p id)):=by
 refine sB B6 func25 rfl call25 ?_;conv=>whnf
 have y:=GO p d;cases q:QE p with
 | false=>
   have e:GU p id=[]:=by unfold GU;rw[if_neg (by rw[q];simp)]
   rw[e];have m:=y.mono (R':=fun r=>r=.nilp) fun r v=>v.2 q;repeat' (refine cP m ?_;conv=>whnf)
   all_goals first
    |contradiction
    |exact⟨_,.p Sub.nils,rfl⟩
 | true=>
   have m:=y.mono (R':=fun r=>r=.ip (QG p).cells) fun r v=>v.1 q;have z:=ZC q;have A:(QG p).G.length=(sheetOf p).l.length:=by rw[z.G];exact x0j _
   have c:=(XP q).2.2;obtain⟨_,_,_,g,_⟩:=QJ p;have t:SpecP prog 60 [.ip (QG p).s.cells,.int .i64 id] (fun r=>r=.bool (decide (1<=id)&&decide (id<=(sheetOf p).l.length))):=by
    have x:=KB (QG p).s id;rw[show(QG p).s.l=(sheetOf p).l by rw[z.s]]at x;exact x
   have u:=fun h=>D8 (O:=(QG p).G) (k:=(id-1).toNat) h;have e:GU p id=if 1<=id/\id<=(sheetOf p).l.length then(QG p).G.getD (id-1).toNat []else []:=by
    unfold GU;by_cases n:1<=id/\id<=(sheetOf p).l.length
    .rw [if_pos ⟨q,n⟩,if_pos n]
    .rw [if_neg (fun h=>n h.2),if_neg n]
   rw[e];generalize(sheetOf p).l.length=sl at*
   generalize QG p=b at*
   by_cases n:1<=id/\id<=(sl:Int)
   .rw [if_pos n];rw[show(decide (1<=id)&&decide (id<=(sl:Int)))=true by simp[n]]at t;have u:=u (by omega);repeat' (first|((first|refine wI ?_|refine cP m ?_|refine cP t ?_|(refine IdxK.at (k:=(id-1).toNat) (by omega) u rfl ?_));conv=>whnf)|(apply bN<;>intro _<;>conv=>whnf))
    all_goals first
     |contradiction
     |exact RetK.p rfl
     |exact⟨_,.p (Sub.refl _),rfl⟩
   .rw [if_neg n];rw[show(decide (1<=id)&&decide (id<=(sl:Int)))=false by rw[x4a,x2c,x2c];omega]at t;repeat' (first|((first|refine cP m ?_|refine cP t ?_);conv=>whnf)|(apply bN<;>intro _<;>conv=>whnf))
    all_goals first
     |contradiction
     |exact⟨_,.p Sub.nils,rfl⟩
def Ki(p:Pg)(d:Fit p)(id:Int):SpecP prog 26 [.agg p.cells,.int .i64 id] (fun r=>r=eStrs (KS p id)):=by
 refine sB B8 func26 rfl call26 ?_;conv=>whnf
 have y:=GO p d;cases q:QE p with
 | false=>
   have e:KS p id=[]:=by unfold KS;rw[if_neg (by rw[q];simp)]
   rw[e];have m:=y.mono (R':=fun r=>r=.nilp) fun r v=>v.2 q;repeat' (refine cP m ?_;conv=>whnf)
   all_goals first
    |contradiction
    |exact⟨_,.p Sub.nils,rfl⟩
 | true=>
   have m:=y.mono (R':=fun r=>r=.ip (QG p).cells) fun r v=>v.1 q;have z:=ZC q;have A:(QG p).N.length=(sheetOf p).l.length:=by rw[z.N];exact x0j _
   have c:=(XP q).2.2;obtain⟨_,_,_,g,_⟩:=QJ p;have t:SpecP prog 60 [.ip (QG p).s.cells,.int .i64 id] (fun r=>r=.bool (decide (1<=id)&&decide (id<=(sheetOf p).l.length))):=by
    have x:=KB (QG p).s id;rw[show(QG p).s.l=(sheetOf p).l by rw[z.s]]at x;exact x
   have u:=fun h=>D8 (O:=(QG p).N) (k:=(id-1).toNat) h;have e:KS p id=if 1<=id/\id<=(sheetOf p).l.length then(QG p).N.getD (id-1).toNat []else []:=by
    unfold KS;by_cases n:1<=id/\id<=(sheetOf p).l.length
    .rw [if_pos ⟨q,n⟩,if_pos n]
    .rw [if_neg (fun h=>n h.2),if_neg n]
   rw[e];generalize(sheetOf p).l.length=sl at*
   generalize QG p=b at*
   by_cases n:1<=id/\id<=(sl:Int)
   .rw [if_pos n];rw[show(decide (1<=id)&&decide (id<=(sl:Int)))=true by simp[n]]at t;have u:=u (by omega);repeat' (first|((first|refine wI ?_|refine cP m ?_|refine cP t ?_|(refine IdxK.at (k:=(id-1).toNat) (by omega) u rfl ?_));conv=>whnf)|(apply bN<;>intro _<;>conv=>whnf))
    all_goals first
     |contradiction
     |exact RetK.p rfl
     |exact⟨_,.p (Sub.refl _),rfl⟩
   .rw [if_neg n];rw[show(decide (1<=id)&&decide (id<=(sl:Int)))=false by rw[x4a,x2c,x2c];omega]at t;repeat' (first|((first|refine cP m ?_|refine cP t ?_);conv=>whnf)|(apply bN<;>intro _<;>conv=>whnf))
    all_goals first
     |contradiction
     |exact⟨_,.p Sub.nils,rfl⟩
section
variable {a b:Str}{p:Pg}{i:Nat}{f:Pr}
end
section
variable {P:Program}{T:Tab}{N:Nat}{σ:Mem}{β:Lab}{a:Act}{w:World}{o:Oper}{K:St->Prop}{s:St}
end
end Go.Ab
