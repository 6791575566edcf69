/- LAW: what places give rises; how many flows there may be. -/
import Derived.Test.YtmfnbgbblkhneaaGreatRchL4
import Derived.Test.YtmfnbgbblkhneaaGreatRchL6
import Derived.Test.YtmfnbgbblkhneaaGreatRchL17
import Derived.Test.YtmfnbgbblkhneaaGreatRchL18
import Derived.Test.YtmfnbgbblkhneaaGreatRchL21
import Derived.Test.YtmfnbgbblkhneaaGreatRchL22
set_option linter.unusedSimpArgs false
set_option linter.unusedVariables false
set_option maxRecDepth 100000
set_option maxHeartbeats 16000000
open Nat (blt)
namespace Go.Ab
open Go.Proofs.Tryz
open Go.Proofs
variable {D I O U:List (List Str)}{G:Nat->List Str}{K:St->Prop}{N k:Nat}{P:Program}{T:Tab}{a:Int}{f:Pr}{info:Info}{net:List (List Int)}{o:List Str}{p:Pg}{s:St}{seen:List Bool}{todo:List Int}
theorem Uf{α β:Type}(f:α->List β)(k:Nat):∀l:List α,(∀x∈l,(f x).length<=k)->(l.flatMap f).length<=l.length*k
 |[],_=>by simp
 | x::r,h=>by
   have h1:=h x x2r;have h2:=Uf f k r fun y hy=>h y (x2c _ hy);rw[x4n,x2s,x4q,x5d];omega
theorem Oi{l:List Str}(hn:l.Nodup)(nm:Str)(a:Nat):((l.map fun s=>(s,a)).filter fun x=>decide (x.1=nm)).map Prod.snd=if nm∈l then [a]else []:=by
 induction l with
 |nil=>rfl
 | cons x r ih=>
   rw[x4r]at hn;rw[x3l,List.filter_cons];by_cases h:x=nm
   ·subst h;rw[if_pos (by simp),x3l,ih hn.2,if_neg hn.1,if_pos x2r]
   ·rw[if_neg (by simpa using h),ih hn.2];by_cases h2:nm∈r
    ·rw[if_pos h2,if_pos (x2c _ h2)]
    ·rw[if_neg h2,if_neg (by rw[x2i];rintro(h3|h3);exact h h3.symm;exact h2 h3)]
theorem Pq{G:Nat->List Str}(hG:∀a,(G a).Nodup)(nm:Str):∀n,atN G n nm=(List.range n).filter fun a=>decide (nm∈G a)
 |0=>rfl
 | n+1=>by
   have ih:=Pq hG nm n;unfold atN at ih⊢;rw[DS,x5r,x3y,ih,Oi (hG n),x7f,x5r];congr 1;by_cases h:nm∈G n
   ·rw[if_pos h];simp[h]
   ·rw[if_neg h];simp[h]
theorem O0(l:List (Str×Nat)):((mapG l).map Prod.fst).length<=l.length:=by
 have key:∀l:List (Str×Nat),((mapG l.reverse).map Prod.fst).length<=l.length:=fun l=>by
  induction l with
  |nil=>exact x3g _
  | cons x r ih=>
    rw[x9q,GL];unfold Dj;rw[Qa];split
    ·rw[x4q];omega
    ·simp only[x2s,x4q,x7g];omega
 have:=key l.reverse
 rwa[x8h,List.length_reverse]at this
theorem O1(l:List (Str×Nat)){k:Str}(h:k∈(mapG l).map Prod.fst):∃a,(k,a)∈l:=by
 have key:∀l:List (Str×Nat),k∈(mapG l.reverse).map Prod.fst->∃a,(k,a)∈l:=fun l=>by
  induction l with
  |nil=>intro h;cases h
  | cons x r ih=>
    rw[x9q,GL];unfold Dj;rw[Qa];intro h;have:k∈(mapG r.reverse).map Prod.fst\/k=x.1:=by
     split at h
     ·exact .inl h
     ·rcases x3x.1 h with h|h
      ·exact .inl h
      ·exact .inr (x2a.1 h)
    rcases this with h|h
    ·obtain⟨a,ha⟩:=ih h;exact⟨a,x2c _ ha⟩
    ·exact⟨x.2,by rw[h];exact x2r⟩
 obtain⟨a,ha⟩:=key l.reverse (by rwa[x8h]);exact⟨a,List.mem_reverse.1 ha⟩
theorem AA{n:Nat}{k:Str}{a:Nat}(h:(k,a)∈prsG G n):a<n/\k∈G a:=by
 unfold prsG at h;obtain⟨b,hb,hx⟩:=x3c.1 h;obtain⟨s,hs,he⟩:=x3q.1 hx;cases he;exact⟨x4y.1 hb,hs⟩
theorem Ot(G T:Nat->List Str)(plc:Nat->Int)(n:Nat)(steps:List (Int×Int))(nm:Str):(outN G T plc n steps nm).length<=n*(atN G n nm).length:=by
 unfold outN;refine x4k (Uf _ (atN G n nm).length _ fun c hc=>?_) (by rw[x5a];exact x3g _);refine x4k (Uf _ 1 _ fun f _=>by split<;>simp) ?_;rw[x9c,x2l];cases hq:(comC n steps (atN G n nm))[c]?with
 |none=>simp
 |some r=>exact(LR (x3k hq)).1
theorem q7z(hG:∀a,(G a).length<=k)(n:Nat):(prsG G n).length<=n*k:=by
 unfold prsG;refine x4k (Uf _ k _ fun a _=>by rw[x2m];exact hG a) (by rw[x5a];exact x3g _)
theorem CP{T:Nat->List Str}{plc:Nat->Int}{n:Nat}{steps:List (Int×Int)}(hn:n<=202)(hG:∀a,(G a).length<=34)(hnd:∀a,(G a).Nodup):(((mapG (prsG G n)).map Prod.fst).flatMap (outN G T plc n steps)).length<=1000000000:=by
 have h1:=O0 (prsG G n);have h2:=q7z hG n;have h3:=Uf (outN G T plc n steps) (202*202) ((mapG (prsG G n)).map Prod.fst) fun nm _=>by
  refine x4k (Ot G T plc n steps nm) ?_;have h4:(atN G n nm).length<=n:=by
   rw[Pq hnd];exact x4k (x5y _ _) (by simp)
  exact Nat.mul_le_mul hn (x4k h4 hn)
 have h5:((mapG (prsG G n)).map Prod.fst).length<=202*34:=x4k h1 (x4k h2 (x4s _ hn));have h6:((mapG (prsG G n)).map Prod.fst).length*(202*202)<=(202*34)*(202*202):=x4s _ h5;omega
theorem Q3{L:List (List Str)}{Q:List Str->Prop}(h0:Q [])(h:∀o∈L,Q o)(i:Nat):Q (L.getD i []):=by
 rw[x2l];cases hq:L[i]?with
 |none=>exact h0
 |some o=>exact h o (x3k hq)
theorem N5{i:Nat}{I:List Str}(hD:∀d∈D,d.Pairwise ltT)(a:Nat):(RF p i f D I a).Pairwise ltT:=by
 unfold RF;split
 ·exact ZB _
 split
 ·exact .nil
 cases(QQ p i f).live.getD a false with
 |false=>exact .nil
 |true=>exact Q3 .nil hD _
theorem EQ{i:Nat}{O:List Str}(hU:∀d∈U,d.Pairwise ltT)(a:Nat):(q1r p i f U O a).Pairwise ltT:=by
 unfold q1r;split
 ·exact ZB _
 split
 ·exact .nil
 cases(QQ p i f).live.getD a false with
 |false=>exact .nil
 |true=>exact Q3 .nil hU _
theorem IK{i:Nat}{I:List Str}(hD:∀d∈D,d.length<=34)(hI:I.length<=25)(hf:f.params.length<=8)(a:Nat):(RF p i f D I a).length<=34:=by
 unfold RF;split
 ·refine x4k (JA _) ?_;rw[x2s,x2m];omega
 split
 ·simp
 cases(QQ p i f).live.getD a false with
 |false=>simp
 |true=>exact Q3 (Q:=fun l=>l.length<=34) (by simp) hD _
theorem RO{n:Str}(h:JQ p f n≠0):n∈p.globals\/n∈Jd f:=by
 unfold JQ at h;unfold Jd;cases hq:f.params.find? (fun a=>a.name==n)with
 | some a=>
   refine .inr (x4h _ (x3q.2 ⟨a,x5n hq,by simpa using x6n hq⟩))
 | none=>
   rw[hq]at h;cases hv:f.vars.any (fun s=>n==s)with
   | true=>
     obtain⟨s,h1,h2⟩:=x4o.1 hv;exact .inr (x4f _ (by rw[eq_of_beq h2];exact h1))
   | false=>
     cases hg:p.globals.any (fun s=>n==s)with
     | true=>
       obtain⟨s,h1,h2⟩:=x4o.1 hg;exact .inl (by rw[eq_of_beq h2];exact h1)
     |false=>exact absurd (by simp only[hv,hg];rfl) h
theorem N7(h:QE p=true){n:Str}(hn:n∈p.globals):isName n=true:=by
 have hm:=(QK h).1;unfold YL at hm;simp only[x3h]at hm;exact x4d.1 hm.1.2 n hn
theorem Dw(h:QE p=true)(hf:f∈p.procs){n:Str}(hn:n∈Jd f):isName n=true:=by
 obtain⟨_,_,_,h1,_,h2⟩:=WC.1 (R0 (QK h).1 hf);rcases x3x.1 hn with hn|hn
 ·obtain⟨a,ha,rfl⟩:=x3q.1 hn;exact x4d.1 h2 a ha
 ·exact x4d.1 h1 n hn
section
variable {p:Pg}{j:Nat}{f:Pr}
theorem M8(h:QE p=true)(hf:f∈p.procs){t:S}(ht:t∈flL f.body){n:Str}(hn:n∈ZK t):isName n=true:=by
 have hk:=JI (QK h).2.1 hf ht;unfold knownB at hk;rw[x3h]at hk;have h1:=x4d.1 hk.1 n hn;rcases RO (by simpa using h1)with h2|h2
 ·exact N7 h h2
 ·exact Dw h hf h2
theorem q4p:isName KI=false:=by kernel_rfl
theorem Ib{t:S}{a:Arg}(ha:a∈t.args){n:Str}(hn:n∈usA a):n∈ZK t:=by
 unfold ZK;refine x4f _ (x3c.2 ⟨a,ha,?_⟩);unfold usA at hn;unfold KG;rcases x3x.1 hn with hn|hn
 ·refine x4h _ ?_;cases hr:a.ref with
  |true=>rw[hr,if_pos rfl]at hn;exact hn
  |false=>rw[hr,if_neg (by decide)]at hn;cases hn
 ·exact x4f _ hn
theorem q3x{t:S}:inAt (bkI p I) t=I.getD (caI p t).toNat []:=rfl
theorem q8j(h:QE p=true)(hj:p.procs[j]?=some f){t:S}(ht:t∈flL f.body):∃it,(sheetOf p).l[(t.id-1).toNat]?=some it/\it.s=t:=by
 have h1:=Es h hj ht;unfold OI at h1;obtain⟨it,h2,h3⟩:=x7r.1 h1;exact⟨it,h2,h3⟩
theorem x0t(h:QE p=true)(hj:p.procs[j]?=some f){t:S}(ht:t∈flL f.body)(I:List (List Str)):FD (usB p I) t.id=WE (MG (bkI p I) t):=by
 obtain⟨it,h1,rfl⟩:=q8j h hj ht;unfold FD usB;rw[x2l,x2e,h1];rfl
theorem q6b{y:Int}(hy:plP p j f y):idN p j f (ixI p j f y)=y:=HP hy
theorem q3n(h:QE p=true)(hj:p.procs[j]?=some f){x:Str}{b:Int}(hw:wR p j f a b)(hp:GT p j f D x (ixI p j f a)=true):nR p j f D x (ixI p j f a) (ixI p j f b):=by
 have hd:=(RZ h hj).2 (.inl hw);obtain⟨h1,h2⟩:=Cc h hj hd;exact⟨hp,(Tj h hj h1 h2).2 hd⟩
theorem q6d{x:Str}(h:QE p=true)(hj:p.procs[j]?=some f){t:S}(ht:t∈flL f.body)(hu:x∈FD U t.id):hitN p j f U o x (ixI p j f t.id)=true:=by
 have hb:=ZI (QK h).1 hj ht;have hy:plP p j f t.id:=.inr (.inr hb);have hr:=WQ hy;unfold hitN;have hE:¬ixI p j f t.id=(cntL f.body+2:Nat)-1:=fun he=>by
  have:=PR hy (.inr (.inl rfl)) (he.trans ix_exit.symm);omega
 have h0:0<ixI p j f t.id:=by
  rcases Int.lt_or_le 0 (ixI p j f t.id)with h1|h1
  ·exact h1
  ·have h2:ixI p j f t.id=ixI p j f 0:=by
    have:ixI p j f 0=0:=by unfold ixI UE;rw[if_pos rfl]
    omega
   have:=PR hy (.inl rfl) h2;omega
 rw[x4i hE,x5g h0];show inS (FD U (idN p j f (ixI p j f t.id))) x=true;rw[q6b hy];exact WP.2 hu
theorem Oe{x:Str}(h:QE p=true)(hj:p.procs[j]?=some f){y:Int}(hy:plP p j f y)(hne:y ≠ -1)(hp:GT p j f D x (ixI p j f y)=false):∃t∈flL f.body,t.id=y/\x∈FD D y:=by
 unfold GT at hp;by_cases hE:ixI p j f y=(cntL f.body+2:Nat)-1
 ·exact absurd (PR hy (.inr (.inl rfl)) (hE.trans ix_exit.symm)) hne
 ·rw[x4i hE]at hp;by_cases h0:0<ixI p j f y
  ·rw[x5g h0]at hp;have h1:inS (FD D (idN p j f (ixI p j f y))) x=true:=by simpa using hp
   rw[q6b hy]at h1;rcases hy with rfl|rfl|⟨h2,h3⟩
   ·unfold ixI UE at h0;rw[if_pos rfl]at h0;omega
   ·exact absurd rfl hne
   ·obtain⟨t,ht,_,h4⟩:=Vd h hj h2 h3;exact⟨t,ht,h4,WP.1 h1⟩
  ·rw[x4i h0]at hp;cases hp
end
section
variable {a b:Str}{p:Pg}{j:Nat}{f:Pr}
end
section
variable {a b:Str}{p:Pg}{j:Nat}{f:Pr}
end
theorem count_set{l:List Bool}{k:Nat}(hk:k<l.length)(h:l.getD k false=false):(l.set k true).count false+1=l.count false:=by
 rw[x2l,x2n hk]at h;have h1:l[k]=false:=h;have h2:0<l.count false:=List.count_pos_iff.2 (h1▸x3w hk);rw[List.count_set hk,h1];simp;omega
theorem NedJ.shutN{i:Nat}{x:Str}{n:Nat}(hn:netR p i f=net)(h:QE p=true)(hj:p.procs[i]?=some f)(hJ:NedJ p i f D U o x n a k seen todo)(hk:(net.getD a.toNat []).length<=k)(h1:hitN p i f U o x a=false):NedI p i f D U o x n seen todo:=by
 subst hn;exact hJ.shut h hj hk h1
theorem NedJ.oldN{i:Nat}{x:Str}{n:Nat}(hn:netR p i f=net)(hJ:NedJ p i f D U o x n a k seen todo)(hk:k<(net.getD a.toNat []).length)(hs:seen.getD ((net.getD a.toNat [])[k]).toNat false=true):NedJ p i f D U o x n a (k+1) seen todo:=by
 subst hn;exact hJ.old hk hs
theorem NedJ.newN{i:Nat}{x:Str}{n:Nat}(hn:netR p i f=net)(hJ:NedJ p i f D U o x n a k seen todo)(hk:k<(net.getD a.toNat []).length){c:Int}(hc:c=(net.getD a.toNat [])[k])(hr:0<=c/\c<(n:Int))(hR:nR p i f D x a c):NedJ p i f D U o x n a (k+1) (seen.set c.toNat true) (todo++[c]):=by
 subst hn;exact hJ.new hk hc hr hR
theorem Ka(h:K s):ZU s K:=by
 rw[VY];exact h
theorem E7{ops:Array Oper}(h:K s):run P T N ops [] s K:=h
theorem EZ{id:Nat}(hf:info.frz id=[])(h:Kj (info.keep id) s K):Mk info id s K:=by
 unfold Mk;rw[hf];show Kj (info.keep id) s fun s=>ZU s K;have e:(fun s=>ZU s K)=K:=funext fun s=>VY s K;rw[e];exact h
theorem Re{ks:List Nat}(s':St)(h:∀K:St->Prop,K s'->Kj ks s K)(hK:K s'):Kj ks s K:=h K hK
theorem Tm{sl:List (Nat×LV)}{d:Nat}{v:LV}{K:List (Nat×LV)->Prop}(hd:blt d N=true)(h:K (Mc sl d v)):setD N sl (some d) v K:=by
 show(bif blt d N then q3e sl d v K else False);rw[hd,x3p,Ye];exact h
theorem q5s{c:Operand}{a b:Code}{K:Exit->St->Prop}(h:QM s.sl c=.p (.bool false))(hb:W P T N info b K s):W P T N info (.cond c a b) K s:=by
 unfold W;rw[h];exact Br.ff hb
theorem q5c{c:Operand}{a b:Code}{K:Exit->St->Prop}(h:QM s.sl c=.p (.bool true))(ha:W P T N info a K s):W P T N info (.cond c a b) K s:=by
 unfold W;rw[h];exact Br.tt ha
theorem Uc(b:Book)(p:Pg)(h:QE p=true)(i:Nat)(f:Pr)(hj:p.procs[i]?=some f)(hW:b.ways[i]?=some (QQ p i f))(o:List Str)(hO:b.outs[i]?=some o)(ho:o.Pairwise ltT)(hol:o.length<=1000000000)(hDl:b.defs.length=(sheetOf p).l.length)(hUl:b.uses.length=(sheetOf p).l.length)(hDr:∀d∈b.defs,d.Pairwise ltT/\d.length<=1000000000)(hUr:∀d∈b.uses,d.Pairwise ltT/\d.length<=1000000000)(x:Str):SpecP prog 152 [.ip b.cells,.int .i64 i,eMat (netR p i f),.str x] (fun r=>r=.bool (C5 p i f b.defs b.uses o x)):=by
 refine sB Xw func152 rfl call152 ?_;conv=>whnf
 obtain⟨n,hn⟩ : ∃n,n=cntL f.body+2:=⟨_,rfl⟩;have hcn:=(XJ h).2.2;obtain⟨_,_,_,hsl,hsp⟩:=QJ p;obtain⟨_,_,hle,_⟩:=hsp i f hj;have hn200:n<=202:=by omega
 have hg1:(b.ways.map fun w=>AV.ip w.cells)[i]?=some (.ip (QQ p i f).cells):=by rw[x2e,hW];rfl
 have hg2:(b.outs.map eStrs)[i]?=some (eStrs o):=by rw[x2e,hO];rfl
 have hwn:(QQ p i f).n=n:=by rw[hn];rfl
 have hHo:=Q4 o x ho hol;have hP:∀a:Int,0<=a/\a<=5000->SpecP prog 64 [.ip (QQ p i f).cells,.int .i64 a] (fun r=>r=.int .i64 (idN p i f a)):=fun a ha=>UW (QQ p i f) f hj (by show cntP p.procs<=1000;omega) ⟨by rw[hwn];omega,by rw[hwn];omega⟩ a ha;have hNl:(netR p i f).length=n:=by rw[hn];exact Yd _ _
 have hNr:∀a:Nat,a<n->∀c∈(netR p i f).getD a [],nR p i f b.defs x a c\/GT p i f b.defs x a=false:=fun a ha c hc=>by
  have hm:=(Yb fun t ht=>(HN h hj t ht).1).1 hc;obtain⟨t,ht,h1,h2⟩:=hm;cases hq:GT p i f b.defs x a with
  |false=>exact .inr rfl
  |true=>exact .inl ⟨hq,by rw[<-h1,<-h2];exact ht⟩
 have hNi:∀a:Nat,a<n->∀c∈(netR p i f).getD a [],0<=c/\c<(n:Int):=fun a ha c hc=>by
  obtain⟨t,ht,_,rfl⟩:=(Yb fun t ht=>(HN h hj t ht).1).1 hc;have:=(HN h hj t ht).2;omega
 have hNc:∀a:Nat,((netR p i f).getD a []).length<=200000:=fun a=>by
  refine x4k (Nl _ _ a) ?_;unfold UL;rw[x2m];exact Fy h hj
 have hId:∀a:Int,0<a->a<(n:Int)-1->1<=idN p i f a/\(idN p i f a-1).toNat<(sheetOf p).l.length:=fun a h1 h2=>by
  unfold idN QP loI;rw[if_neg (by omega),if_neg (by omega)];omega
 obtain⟨net,hnet⟩ : ∃net,netR p i f=net:=⟨_,rfl⟩;rw[hnet]at hNl hNr hNi hNc⊢;generalize QQ p i f=w at hg1 hwn hP hW;repeat' ((first|refine x2t rfl ?_|refine aD ?_|refine aR ?_|(refine IdxK.at (k:=i) rfl hg1 rfl ?_)|refine x8v n hwn (by show 1*n<=140737488355328;omega) (by unfold maxLen;omega) ?_|refine x9b (fun x hx=>by rcases x2a.1 hx with rfl;rfl) rfl ?_);conv=>whnf)
 refine LoopK.inv QY (fun y:List Bool×List Int=>⟨[(0,.p (.ip b.cells)),(1,.p (.int .i64 i)),(2,.p (eMat net)),(3,.p (.str x)),(9,.p (.ip w.cells)),(10,.hd 0 0 n),(11,.hd 1 0 y.2.length)],[(1,.own 3 1 (y.2.map (.int .i64))),(0,.own 4 1 (y.1.map bv))]⟩)
  (fun y=>NedI p i f b.defs b.uses o x n y.1 y.2/\y.2.length+y.1.count false<=n+1) (fun y=>2*y.1.count false+y.2.length) (List.replicate n false,[0]) (Le.of_eq (by rw[x6x];rfl)) ⟨NedI.start n (by omega),by simp;omega⟩ ?_
 rintro⟨seen,todo⟩ ⟨hI,hc1⟩;simp only at hI hc1⊢;rcases List.eq_nil_or_concat todo with rfl|⟨st,a,rfl⟩
 ·have hz:(([]:List Int).length)=0:=rfl;conv=>whnf
  repeat' (first|(refine iM fun _=>?_;conv=>whnf)|(apply bD<;>intro _<;>first|omega|conv=>whnf))
  all_goals exact RetK.ff (hI.stop h hj)
 rw[List.concat_eq_append]at hI hc1⊢;have hstl:(st++[a]).length=st.length+1:=by simp
 have har:=hI.rng a (by simp);have e3:((st++[a]).map (AV.int .i64))[st.length]?=some (.int .i64 a):=by simp
 have hsl2:=hI.len;have hway:=hI.way a (hI.td a (by simp));have hPa:=hP a ⟨har.1,by omega⟩;have hcut:∀(sl:List (Nat×LV)),Le Tryz.f152.ntmps ⟨sl,[(1,.own 3 1 ((st++[a]).map (.int .i64))),(0,.own 4 1 (seen.map bv))]⟩ ⟨sl,[(1,.own 3 1 (st.map (.int .i64))),(0,.own 4 1 (seen.map bv))]⟩:=fun sl=>Le.cut (.cut ⟨[.int .i64 a],by simp⟩ (.same .nil));have hrow:((avI net).map AV.sl)[a.toNat]?=some (.sl ((net.getD a.toNat []).map (.int .i64))):=by
  have:a.toNat<net.length:=by rw[hNl];omega
  rw[x2l,x2n this];simp[avI,this]
 have hrl:((net.getD a.toNat []).map (AV.int .i64)).length=(net.getD a.toNat []).length:=x2m _;have hcs:a=(n:Int)-1\/(a=0/\¬a=(n:Int)-1)\/(0<a/\¬a=(n:Int)-1):=by omega
 rcases hcs with hE|⟨hz,hE⟩|⟨hpos,hE⟩
 ·-- the exit
  have hhit:hitN p i f b.uses o x a=inS o x:=by unfold hitN;rw[<-hn,x5g hE];rfl
  have hpas:GT p i f b.defs x a=false:=by unfold GT;rw[<-hn,x5g hE];rfl
  conv=>whnf
  repeat' (first|((first|(refine iM fun _=>?_)|refine x2t rfl ?_|refine wI ?_|refine x4j st.length (by omega) (by omega) ?_|refine x5z st.length 0 (.int .i64 a) (by omega) e3 ?_|refine SlK.mk 0 st.length rfl (by show((st++[a]).length:Int)-1=_;omega) (by omega) (by omega) ?_|(refine IdxK.at (k:=i) rfl hg2 rfl ?_)|refine cP hHo ?_);conv=>whnf)|(apply bD<;>intro _<;>first|omega|conv=>whnf)|(apply bB<;>intro _<;>conv=>whnf))
  ·exact RetK.tt ((BS h hj).2 ⟨a,hway,by rw[hhit];assumption⟩)
  ·exact⟨(seen,st),⟨hI.skip (by rw[hhit];assumption) hpas,by simp only;omega⟩,by simp only;omega,(hcut _).trans (lE)⟩
 ·-- the entry
  have hhit:hitN p i f b.uses o x a=false:=by unfold hitN;rw[<-hn,x4i hE,x4i (by omega)];rfl
  have hpas:GT p i f b.defs x a=true:=by unfold GT;rw[<-hn,x4i hE,x4i (by omega)];rfl
  conv=>whnf
  repeat' (first|((first|(refine iM fun _=>?_)|refine x2t rfl ?_|refine wI ?_|refine x4j st.length (by omega) (by omega) ?_|refine x5z st.length 0 (.int .i64 a) (by omega) e3 ?_|refine SlK.mk 0 st.length rfl (by show((st++[a]).length:Int)-1=_;omega) (by omega) (by omega) ?_|(refine IdxK.at (k:=a.toNat) (by omega) hrow rfl ?_));conv=>whnf)|(apply bD<;>intro _<;>first|omega|conv=>whnf))
  refine LoopK.inv QY (fun y:Nat×List Bool×List Int=>⟨[(0,.p (.ip b.cells)),(1,.p (.int .i64 i)),(2,.p (eMat net)),(3,.p (.str x)),(9,.p (.ip w.cells)),(10,.hd 0 0 n),(11,.hd 1 0 y.2.2.length),(87,.p (QO (net.getD a.toNat []))),(88,.p (.int .i64 ((net.getD a.toNat []).map (AV.int .i64)).length)),(89,.p (.int .i64 y.1))],[(1,.own 3 1 (y.2.2.map (.int .i64))),(0,.own 4 1 (y.2.1.map bv))]⟩)
   (fun y=>y.1<=(net.getD a.toNat []).length/\NedJ p i f b.defs b.uses o x n a y.1 y.2.1 y.2.2/\y.2.2.length+y.2.1.count false<=n/\2*y.2.1.count false+y.2.2.length<=2*seen.count false+st.length) (fun y=>(net.getD a.toNat []).length-y.1) (0,seen,st)
   ((hcut _).trans (Le.of_eq rfl)) ⟨x3z _,hI.open,by simp only;omega,x3g _⟩ ?_
  rintro⟨k,sn,td⟩ ⟨h1,hJ,h3,h4⟩;simp only at h1 hJ h3 h4⊢;rcases x3v k (net.getD a.toNat []).length with hk|hk;rotate_left 1
  ·conv=>whnf
   repeat' (apply bD<;>intro _<;>first|omega|conv=>whnf)
   all_goals exact⟨(sn,td),⟨hJ.shutN hnet h hj hk hhit,by simp only;omega⟩,by simp only;omega,lE⟩
  ·obtain⟨c,hc⟩ : ∃c,c=(net.getD a.toNat [])[k]:=⟨_,rfl⟩;have hcm:c∈net.getD a.toNat []:=by rw[hc];exact x3w hk
   have hcr:=hNi a.toNat (by omega) c hcm;have hcR:nR p i f b.defs x a c:=by
    rcases hNr a.toNat (by omega) c hcm with h5|h5
    ·rwa[x6f har.1]at h5
    ·rw[x6f har.1,hpas]at h5;cases h5
   have hsnl:=hJ.len;have e4:=q0b (l:=sn) (i:=c.toNat) (by omega);have e5:((net.getD a.toNat []).map (AV.int .i64))[k]?=some (.int .i64 c):=by rw[x2e,x2n hk,<-hc];rfl
   cases hs:sn.getD c.toNat false with
   | true=>
     rw[hs]at e4;conv=>whnf
     repeat' (first|((first|refine x2t rfl ?_|(refine iA fun _=>?_)|refine wI ?_|refine x4j c.toNat (by omega) (by omega) ?_|refine x5z c.toNat 0 .tt (by omega) e4 ?_);conv=>whnf)|(apply bD<;>intro _<;>first|omega|conv=>whnf))
     all_goals first
       |exact⟨(k+1,sn,td),⟨hk,hJ.oldN hnet hk (by rw[<-hc];exact hs),h3,h4⟩,by simp only;omega,Le.of_eq rfl⟩
   | false=>
     rw[hs]at e4;have hcs:=count_set (l:=sn) (k:=c.toNat) (by omega) hs;conv=>whnf
     repeat' (first|((first|refine x2t rfl ?_|refine aD ?_|refine bP ?_|(refine iA fun _=>?_)|refine wI ?_|refine x4j c.toNat (by omega) (by omega) ?_|refine x5z c.toNat 0 .ff (by omega) e4 ?_|refine x5i c.toNat 0 .ff .tt (by omega) e4 (x3g 1) rfl ?_|refine XH (by simp) (by simp;omega) ?_);conv=>whnf)|(apply bD<;>intro _<;>first|omega|conv=>whnf))
     all_goals first
       |exact⟨(k+1,sn.set c.toNat true,td++[c]),⟨hk,hJ.newN hnet hk hc hcr hcR,by simp only[x2s,x3a];omega,by simp only[x2s,x3a];omega⟩,by simp only;omega,Le.of_eq (by rw[<-hc];simp only[x4m,x3y,x2s];rfl)⟩
 ·-- a statement
  obtain⟨hid1,hid2⟩:=hId a hpos (by omega);have hgU:(b.uses.map eStrs)[(idN p i f a-1).toNat]?=some (eStrs (FD b.uses (idN p i f a))):=by
   unfold FD;rw[x2e,x2l,x2n (by omega)];rfl
  have hgD:(b.defs.map eStrs)[(idN p i f a-1).toNat]?=some (eStrs (FD b.defs (idN p i f a))):=by
   unfold FD;rw[x2e,x2l,x2n (by omega)];rfl
  have hrU:(FD b.uses (idN p i f a)).Pairwise ltT/\(FD b.uses (idN p i f a)).length<=1000000000:=by
   unfold FD;rw[x2l,x2n (by omega)];exact hUr _ (x3w _)
  have hrD:(FD b.defs (idN p i f a)).Pairwise ltT/\(FD b.defs (idN p i f a)).length<=1000000000:=by
   unfold FD;rw[x2l,x2n (by omega)];exact hDr _ (x3w _)
  have hHU:=Q4 _ x hrU.1 hrU.2;have hHD:=Q4 _ x hrD.1 hrD.2;have hhitB:hitN p i f b.uses o x a=inS (FD b.uses (idN p i f a)) x:=by unfold hitN;rw[<-hn,x4i hE,x5g hpos];rfl
  have hpasB:GT p i f b.defs x a = !inS (FD b.defs (idN p i f a)) x:=by unfold GT;rw[<-hn,x4i hE,x5g hpos];rfl
  generalize idN p i f a=id at*
  generalize FD b.uses id=lu at*
  generalize FD b.defs id=ld at*
  conv=>whnf
  repeat' (first|((first|(refine iM fun _=>?_)|refine x2t rfl ?_|refine wI ?_|refine x4j st.length (by omega) (by omega) ?_|refine x5z st.length 0 (.int .i64 a) (by omega) e3 ?_|refine SlK.mk 0 st.length rfl (by show((st++[a]).length:Int)-1=_;omega) (by omega) (by omega) ?_|refine cP hPa ?_|(refine IdxK.at (k:=(id-1).toNat) (by omega) hgU rfl ?_));conv=>whnf)|(apply bD<;>intro _<;>first|omega|conv=>whnf))
  refine CallK.pure hHU (.cons (Sub.refl _) (.cons (Sub.refl _) .nil)) ?_;rintro _ rfl;refine Tm (by kernel_rfl) ?_;refine Ka ?_;refine E7 ?_;refine EZ (by kernel_rfl) ?_;refine Re ⟨[(0,.p (.ip b.cells)),(1,.p (.int .i64 i)),(2,.p (eMat net)),(3,.p (.str x)),(9,.p (.ip w.cells)),(10,.hd 0 0 n),(11,.hd 1 0 st.length),(12,.p (.int .i64 a)),(13,.p (.int .i64 id)),(73,.p (.bool (inS lu x)))],[(1,.own 3 1 ((st++[a]).map (.int .i64))),(0,.own 4 1 (seen.map bv))]⟩ (fun K h=>h) ?_;cases hqu:inS lu x;rotate_left
  ·refine q5c rfl ?_;conv=>whnf
   skip
   all_goals exact RetK.tt ((BS h hj).2 ⟨a,hway,by rw[hhitB,hqu]⟩)
  refine q5s rfl ?_;conv=>whnf
  repeat' ((first|refine wI ?_|(refine IdxK.at (k:=(id-1).toNat) (by omega) hgD rfl ?_));conv=>whnf)
  refine CallK.pure hHD (.cons (Sub.refl _) (.cons (Sub.refl _) .nil)) ?_;rintro _ rfl;refine Tm (by kernel_rfl) ?_;refine Ka ?_;refine E7 ?_;refine EZ (by kernel_rfl) ?_;refine Re ⟨[(0,.p (.ip b.cells)),(1,.p (.int .i64 i)),(2,.p (eMat net)),(3,.p (.str x)),(9,.p (.ip w.cells)),(10,.hd 0 0 n),(11,.hd 1 0 st.length),(12,.p (.int .i64 a)),(83,.p (.bool (inS ld x)))],[(1,.own 3 1 ((st++[a]).map (.int .i64))),(0,.own 4 1 (seen.map bv))]⟩ (fun K h=>h) ?_;have hhit:hitN p i f b.uses o x a=false:=by rw[hhitB,hqu]
  cases hqd:inS ld x;rotate_left
  ·have hpas:GT p i f b.defs x a=false:=by rw[hpasB,hqd];rfl
   refine q5c rfl ?_;conv=>whnf
   skip
   all_goals exact⟨(seen,st),⟨hI.skip hhit hpas,by simp only;omega⟩,by simp only;omega,(hcut _).trans (lE)⟩
  ·have hpas:GT p i f b.defs x a=true:=by rw[hpasB,hqd];rfl
   refine q5s rfl ?_;conv=>whnf
   repeat' ((first|(refine iM fun _=>?_)|(refine IdxK.at (k:=a.toNat) (by omega) hrow rfl ?_));conv=>whnf)
   refine LoopK.inv QY (fun y:Nat×List Bool×List Int=>⟨[(0,.p (.ip b.cells)),(1,.p (.int .i64 i)),(2,.p (eMat net)),(3,.p (.str x)),(9,.p (.ip w.cells)),(10,.hd 0 0 n),(11,.hd 1 0 y.2.2.length),(87,.p (QO (net.getD a.toNat []))),(88,.p (.int .i64 ((net.getD a.toNat []).map (AV.int .i64)).length)),(89,.p (.int .i64 y.1))],[(1,.own 3 1 (y.2.2.map (.int .i64))),(0,.own 4 1 (y.2.1.map bv))]⟩)
    (fun y=>y.1<=(net.getD a.toNat []).length/\NedJ p i f b.defs b.uses o x n a y.1 y.2.1 y.2.2/\y.2.2.length+y.2.1.count false<=n/\2*y.2.1.count false+y.2.2.length<=2*seen.count false+st.length) (fun y=>(net.getD a.toNat []).length-y.1) (0,seen,st)
    ((hcut _).trans (Le.of_eq rfl)) ⟨x3z _,hI.open,by simp only;omega,x3g _⟩ ?_
   rintro⟨k,sn,td⟩ ⟨h1,hJ,h3,h4⟩;simp only at h1 hJ h3 h4⊢;rcases x3v k (net.getD a.toNat []).length with hk|hk;rotate_left 1
   ·conv=>whnf
    repeat' (apply bD<;>intro _<;>first|omega|conv=>whnf)
    all_goals exact⟨(sn,td),⟨hJ.shutN hnet h hj hk hhit,by simp only;omega⟩,by simp only;omega,lE⟩
   ·obtain⟨c,hc⟩ : ∃c,c=(net.getD a.toNat [])[k]:=⟨_,rfl⟩;have hcm:c∈net.getD a.toNat []:=by rw[hc];exact x3w hk
    have hcr:=hNi a.toNat (by omega) c hcm;have hcR:nR p i f b.defs x a c:=by
     rcases hNr a.toNat (by omega) c hcm with h5|h5
     ·rwa[x6f har.1]at h5
     ·rw[x6f har.1,hpas]at h5;cases h5
    have hsnl:=hJ.len;have e4:=q0b (l:=sn) (i:=c.toNat) (by omega);have e5:((net.getD a.toNat []).map (AV.int .i64))[k]?=some (.int .i64 c):=by rw[x2e,x2n hk,<-hc];rfl
    cases hs:sn.getD c.toNat false with
    | true=>
      rw[hs]at e4;conv=>whnf
      repeat' (first|((first|refine x2t rfl ?_|(refine iA fun _=>?_)|refine wI ?_|refine x4j c.toNat (by omega) (by omega) ?_|refine x5z c.toNat 0 .tt (by omega) e4 ?_);conv=>whnf)|(apply bD<;>intro _<;>first|omega|conv=>whnf))
      all_goals first
        |exact⟨(k+1,sn,td),⟨hk,hJ.oldN hnet hk (by rw[<-hc];exact hs),h3,h4⟩,by simp only;omega,Le.of_eq rfl⟩
    | false=>
      rw[hs]at e4;have hcs:=count_set (l:=sn) (k:=c.toNat) (by omega) hs;conv=>whnf
      repeat' (first|((first|refine x2t rfl ?_|refine aD ?_|refine bP ?_|(refine iA fun _=>?_)|refine wI ?_|refine x4j c.toNat (by omega) (by omega) ?_|refine x5z c.toNat 0 .ff (by omega) e4 ?_|refine x5i c.toNat 0 .ff .tt (by omega) e4 (x3g 1) rfl ?_|refine XH (by simp) (by simp;omega) ?_);conv=>whnf)|(apply bD<;>intro _<;>first|omega|conv=>whnf))
      all_goals first
        |exact⟨(k+1,sn.set c.toNat true,td++[c]),⟨hk,hJ.newN hnet hk hc hcr hcR,by simp only[x2s,x3a];omega,by simp only[x2s,x3a];omega⟩,by simp only;omega,Le.of_eq (by rw[<-hc];simp only[x4m,x3y,x2s];rfl)⟩
inductive SlR(g:Nat->Option Nat)(sl:List (Nat×LV)):List (Nat×LV)->Prop
 |nil:SlR g sl []
 |cons {i:Nat} {l:LV} {r:List (Nat×LV)} (h:LSub ((getS sl i).ren g) l) (hr:SlR g sl r):SlR g sl ((i,l)::r)
theorem SlR.r{g:Nat->Option Nat}{sl:List (Nat×LV)}{i:Nat}{r:List (Nat×LV)}(h:SlR g sl r):SlR g sl ((i,(getS sl i).ren g)::r):=.cons (.refl _) h
theorem SlR.get{g:Nat->Option Nat}{sl sl':List (Nat×LV)}(h:SlR g sl sl')(i:Nat):LSub ((getS sl i).ren g) (getS sl' i)\/getS sl' i=.p .any:=by
 induction h with
 |nil=>exact .inr rfl
 | @cons j l r h hr ih=>
   simp only[getS];by_cases hj:j=i
   ·subst hj;exact .inl (by simpa using h)
   ·have:(j==i)=false:=by simp[hj]
    simpa[this]using ih
theorem q2q{s':St}(π:Nat->Nat)(h2:∀k,π (π k)=k)(hpin:∀j,1000<=j->j<2000->π j=j)(hsl:SlR (fun k=>some (π k)) s.sl s'.sl)(hH:∀j c,(j,c)∈s'.H->∃c0,(π j,c0)∈s.H/\CSub (c0.ren fun k=>some (π k)) c)(hnd:(s'.H.map (·.1)).Nodup):Le N s s':=fun σ β a w hr=>by
 have hg:∀k j,(fun k=>some (π k)) k=some j->(fun j=>β (π j)) j=β k:=fun k j hk=>by
  cases hk;show β (π (π k))=β k;rw[h2]
 have hin:∀j∈s'.H.map (·.1),π j∈s.H.map (·.1):=fun j hj=>by
  obtain⟨⟨j',c⟩,hm,rfl⟩:=x3q.1 hj;obtain⟨c0,h1,_⟩:=hH j' c hm;exact x3q.2 ⟨_,h1,rfl⟩
 refine⟨σ,fun j=>β (π j),⟨hr.size,hr.defers,fun i=>?_,hr.heap.mem,fun j c hj=>?_,hnd,fun j hj i hi b hb=>hr.heap.apart (π j) (hin j hj) i hi b hb,fun j hj j' hj' i i' hi hi' b hb hb'=>?_⟩,Mem.le_refl σ,Frm.refl _ _,fun b h0 h1=>absurd h0 h1,fun b ⟨j,hj,i,hi,hb⟩=>.inl ⟨π j,hin j hj,i,hi,hb⟩,fun k h0 h1=>?_⟩
 ·rcases hsl.get i with h|h
  ·exact h.rep ((hr.slots i).ren hg)
  ·rw[h];exact .p (.any _)
 ·obtain⟨c0,h1,h3⟩:=hH j c hj;exact h3 _ _ _ _ ((hr.heap.chunks (π j) c0 h1).ren (j:=j) hg (by show some (π (π j))=some j;rw[h2]))
 ·have:=hr.heap.inj (π j) (hin j hj) (π j') (hin j' hj') i i' hi hi' b hb hb';rw[<-h2 j,this,h2]
 ·show β (π k)=β k;rw[hpin k h0 h1]
theorem JH(l:List Str)(hlen:l.length<=1000000000):SpecH prog 86 [.hd 1000 0 l.length] [(1000,.own 9 1 (l.map .str))] (fun r H=>r=.p (eStrs (WE l))/\H=[]):=by
 have h:=Ua l hlen;refine⟨h.go,fun σ β w vals h1 h2 h3=>(h.ok σ β w vals h1 h2 h3).mono fun ex w' hx=>?_⟩;obtain⟨r,u,σ',β',H',he,⟨rfl,rfl⟩,hrep,hrel,hlat⟩:=hx;generalize WE l=m at*
 obtain⟨s',rfl,hle⟩:=Le.row (N:=1) (s:=⟨[(0,.hd 1000 0 m.length)],[(1000,.own 9 1 (m.map .str))]⟩) (k:=1000) (e:=9) (sz:=1) (es:=m.map .str) (zs:=[0]) rfl (K:=fun s=>s=⟨[(0,.p (eStrs m))],[]⟩)
  ⟨(x2m _).symm,rfl⟩
 obtain⟨σ2,β2,hr2,hl2⟩:=hle σ' β' {tmps:=#[u],defers:=[]} w' ⟨rfl,rfl,fun i=>by
  match i with
  |0=>simpa[getS]using hrep
  |i+1=>exact .p (by simpa[getS]using Rep.any _),hrel⟩
 exact⟨.p (eStrs m),u,σ2,β2,[],he,⟨rfl,rfl⟩,by simpa[getS]using hr2.slots 0,hr2.heap,hlat.trans hl2⟩
def R2(p:Pg)(l1 l2 l3:LV)(n:Nat):Chunk:=.obj 95 [.p (.ip (sheetOf p).cells),l1,l2,l3,.hd 0 0 n,.hd 1 0 n]
def YJ(L:List (List Str)):Chunk:=.own 22 1 (L.map eStrs)
def Ga(p:Pg)(k:Nat):Chunk:=.own 115 1 (((wysB p).take k).map fun w=>.ip w.cells)
theorem CZ(n:Nat):ElS (List.replicate n (AV.ofV (.slice none 0 0))) ((List.replicate n ([]:List Str)).map eStrs):=by
 refine⟨by simp,fun m x h=>?_⟩;rw[x6x,x3o]at h;rw[x3o];split at h
 ·cases h;rw[if_pos (by assumption)];refine⟨_,rfl,rfl,fun j c hc=>?_⟩
  match j,hc with
  |0,hc=>cases hc;exact⟨_,rfl,Sub.nils⟩
 ·cases h
theorem q6s{a:AV}{n:Nat}:
  Le N ⟨[(1,.p a),(3,.ptr 2 0)],[(2,.obj 95 [.p (.ip (sheetOf p).cells),.p (AV.ofS (.slice none 0 0)),.p (AV.ofS (.slice none 0 0)),.p (AV.ofS (.slice none 0 0)),.hd 0 0 n,.hd 1 0 n]),(1,.own 22 1 (List.replicate n (AV.ofV (.slice none 0 0)))),(0,.own 22 1 (List.replicate n (AV.ofV (.slice none 0 0))))]⟩
   ⟨[(1,.p a),(3,.ptr 2 0)],[(3,Ga p 0),(2,R2 p (.hd 3 0 0) (.p .nils) (.p .nils) n),(1,YJ (List.replicate n [])),(0,YJ (List.replicate n []))]⟩:=by
 refine Le.trans (Le.els (.same (.els (CZ n) (.els (CZ n) .nil)))) ?_;exact Le.mk [(3,Ga p 0)] (by simp[Chunk.new0,Ga];rfl) (by simp) (by simp) (.r (.r .nil)) (.new x2r (.cons rfl (.obj (.r (.cons (.nil x2r) (.r (.r (.r (.r .nil))))))) (.cons rfl (.refl _) (.cons rfl (.refl _) .nil))))
def q9z(k:Nat):Nat:=if k=0 then 1 else if k=1 then 0 else k
theorem q9q{a:AV}{n:Nat}:
  Le N ⟨[(1,.p a),(3,.ptr 2 0)],[(2,.obj 95 [.p (.ip (sheetOf p).cells),.p (AV.ofS (.slice none 0 0)),.p (AV.ofS (.slice none 0 0)),.p (AV.ofS (.slice none 0 0)),.hd 1 0 n,.hd 0 0 n]),(1,.own 22 1 (List.replicate n (AV.ofV (.slice none 0 0)))),(0,.own 22 1 (List.replicate n (AV.ofV (.slice none 0 0))))]⟩
   ⟨[(1,.p a),(3,.ptr 2 0)],[(3,Ga p 0),(2,R2 p (.hd 3 0 0) (.p .nils) (.p .nils) n),(1,YJ (List.replicate n [])),(0,YJ (List.replicate n []))]⟩:=by
 refine Le.trans ?_ q6s;refine q2q q9z (fun k=>by unfold q9z;split<;>(try split)<;>simp_all) (fun j h0 h1=>by unfold q9z;rw[if_neg (by omega),if_neg (by omega)]) (.r (.r .nil)) (fun j c hj=>?_) (by simp);rcases x2i.1 hj with he|hj
 ·cases he;exact⟨_,x2r,CSub.refl _⟩
 rcases x2i.1 hj with he|hj
 ·cases he;exact⟨_,x2c _ (x2c _ x2r),CSub.refl _⟩
 rcases x2i.1 hj with he|hj
 ·cases he;exact⟨_,x2c _ x2r,CSub.refl _⟩
 ·cases hj
theorem EB{W:List (List Str)}(hk:k<W.length)(hl:W.length=O.length):((W.take k++O.drop k).map eStrs).set k (eStrs W[k])=(W.take (k+1)++O.drop (k+1)).map eStrs:=by
 rw[<-x4m,x6h _ _ (by rw[x3m];omega),x3m,show k-min k W.length=0 by omega,x4v (by omega),x6b,x3u hk,x3s];rfl
theorem q1s{W:List (List Str)}(hk:k<O.length)(hl:W.length=O.length):((W.take k++O.drop k).map eStrs)[k]?=some (eStrs O[k]):=by
 rw[x2e,x4u (by rw[x3m];omega),x3m,show k-min k W.length=0 by omega,x4c,x8u,x2n hk];rfl
theorem ED{W:List (List Str)}(hk:k<=O.length)(hl:W.length=O.length):((W.take k++O.drop k).map eStrs).length=O.length:=by
 rw[x2m,x2s,x3m,x5f];omega
theorem q1c{W:List (List Str)}(hk:k<W.length)(hk':k<O.length):decide (W.take (k+1)=O.take (k+1))=(decide (W.take k=O.take k)&&decide (W[k]=O[k])):=by
 rw[x3u hk,x3u hk',<-Bool.decide_and];refine decide_eq_decide.2 ⟨fun h=>?_,fun h=>by rw[h.1,h.2]⟩;have h1:=List.append_inj' h rfl;exact⟨h1.1,by simpa using h1.2⟩
theorem TJ(hc:QE p=true)(h:OkI p I){t:S}(ht:t∈VN p):(MG (bkI p I) t).length<=1000000000:=by
 have h1:=TY t;unfold MG;split
 ·rename_i h4;have h2:=(LN hc ht h4).2;have h3:=HU EP t.args;have h5:t.args.length*1048577<=8*1048577:=x4s _ h2;have h6:=h.len25 hc (caI (bkI p I).s.p t).toNat;have h7:(inAt (bkI p I) t).length<=25:=h6;simp only[x2s];omega
 ·omega
theorem O5{g:FuncId}{args:List LV}{dst:Option Nat}{avs:List AV}{L:List Str}{nil:Prop}(k:Nat)(hu:WU k s=true)(hs:SpecH P g (avs.map .p) [] (OneRow (Hz L) nil))(ha:FrzL s.H args avs)(hn:nil->setD N s.sl dst (.p .nils) fun sl=>K ⟨sl,s.H⟩)(h:setD N s.sl dst (.hd k 0 L.length) fun sl=>K ⟨sl,(k,.own 9 1 (L.map .str))::s.H⟩):CallK P N g args dst s K:=
 JV k hu hs ha hn fun q e sz es hR=>by
  obtain⟨rfl,rfl,rfl⟩:=hR;rw[x2m];exact h
theorem q6y{H:Heap}{l1 l2 l3:LV}{n:Nat}(hg:getH H 2=some (R2 p l1 l2 l3 n))(h1:Frz H l1 (.sl ((wysB p).map fun w=>.ip w.cells)))(h2:Frz H l2 (.sl (D.map eStrs)))(h3:Frz H l3 (.sl (U.map eStrs)))(h4:Frz H (.hd 0 0 n) (.sl (I.map eStrs)))(h5:Frz H (.hd 1 0 n) (.sl (O.map eStrs))):Frz H (.ptr 2 0) (.ip (Book.cells ⟨sheetOf p,wysB p,D,U,I,O⟩)):=
 Frz.ptr (off:=0) (cs:=Book.cells ⟨sheetOf p,wysB p,D,U,I,O⟩) hg rfl fun j l c hj hc=>by
  match j,hj,hc with
  |0,hj,hc=>cases hj;cases hc;exact .p (Sub.refl _)
  |1,hj,hc=>cases hj;cases hc;exact h1
  |2,hj,hc=>cases hj;cases hc;exact h2
  |3,hj,hc=>cases hj;cases hc;exact h3
  |4,hj,hc=>cases hj;cases hc;exact h4
  |5,hj,hc=>cases hj;cases hc;exact h5
  |j+6,hj,_=>cases hj
theorem Qd:Ga p p.procs.length=.own 115 1 ((wysB p).map fun w=>.ip w.cells):=by
 unfold Ga;rw[x3f (by unfold wysB;rw[x2m,x5a];exact x3g _)]
theorem Qo:p.procs.length=((wysB p).map fun w=>AV.ip w.cells).length:=by
 unfold wysB;rw[x2m,x2m,x5a]
theorem M6{L:List (List Str)}(h:k<L.length)(ho:L[k]=o):YJ (L.take (k+1))=.own 22 1 ((L.take k).map eStrs++[eStrs o]):=by
 unfold YJ;rw[x3u h,x3y,ho];rfl
def NI:Code->List Code
 |.seq a b=>NI a++NI b
 |.cond _ a b=>NI a++NI b
 |.block _ b=>NI b
 |.loop b=>b::NI b
 |_=>[]
noncomputable def x1n(k:Nat):Code:=(NI (Tryz.f48.body.getD .skip)).getD k .skip
theorem q3m(hc:QE p=true){R:List (List Str)}(hO:OkO p O)(hDl:D.length=(sheetOf p).l.length)(hUl:U.length=(sheetOf p).l.length)(hd:∀d∈D,d.Pairwise ltT/\d.length<=1000000000)(hu:∀d∈U,d.Pairwise ltT/\d.length<=1000000000)(hIn:I.length=p.procs.length)(hRn:R.length=p.procs.length)(hR:∀(k:Nat)(h:k<p.procs.length)(h':k<R.length),R[k]=WE (RL p k p.procs[k] D U (O.getD k []))){K:Exit->St->Prop}(hK:∀(m:Bool)(s:St),m=(!decide (R=I))->Le Tryz.f48.ntmps s ⟨[(1,.p (.ip p.cells)),(3,.ptr 2 0),(10,.p (.bool m))],[(5,YJ U),(4,YJ D),(3,Ga p p.procs.length),(2,R2 p (.hd 3 0 p.procs.length) (.hd 4 0 D.length) (.hd 5 0 U.length) p.procs.length),(1,YJ O),(0,YJ R)]⟩->K (.exit 12) s):
  LoopK prog tab Tryz.f48.ntmps K4 (x1n 6) K ⟨[(1,.p (.ip p.cells)),(3,.ptr 2 0),(10,.p .ff),(147,.p (.int .i64 (p.procs.map fun f=>AV.agg f.cells).length)),(148,.p (.int .i64 0))],[(5,YJ U),(4,YJ D),(3,Ga p p.procs.length),(2,R2 p (.hd 3 0 p.procs.length) (.hd 4 0 D.length) (.hd 5 0 (sheetOf p).l.length) p.procs.length),(1,YJ O),(0,YJ I)]⟩:=by
 obtain⟨hg,hpl,hcn⟩:=XJ hc;have hpm:(p.procs.map fun f=>AV.agg f.cells).length=p.procs.length:=x2m _;have hWl:R.length=I.length:=by omega
 have hOn:=hO.len;have hOl:p.procs.length=(O.map eStrs).length:=by rw[x2m,hO.len]
 have hKD:D.length=(D.map eStrs).length:=by rw[x2m]
 refine LoopK.inv QY (fun x:Nat×Bool=>⟨[(1,.p (.ip p.cells)),(3,.ptr 2 0),(10,.p (.bool x.2)),(147,.p (.int .i64 (p.procs.map fun f=>AV.agg f.cells).length)),(148,.p (.int .i64 x.1))],[(5,YJ U),(4,YJ D),(3,Ga p p.procs.length),(2,R2 p (.hd 3 0 p.procs.length) (.hd 4 0 D.length) (.hd 5 0 (sheetOf p).l.length) p.procs.length),(1,YJ O),(0,YJ (R.take x.1++I.drop x.1))]⟩)
  (fun x=>x.1<=p.procs.length/\x.2 = !decide (R.take x.1=I.take x.1)) (fun x=>p.procs.length-x.1) (0,false)
  (Le.mk [] (by simp) (by simp) (by simp) (.r (.r (.cons (.p (Sub.ff rfl)) (.r (.r .nil))))) (.cons rfl (.refl _) (.cons rfl (.refl _) (.cons rfl (.refl _) (.cons rfl (.refl _) (.cons rfl (.refl _) (.cons rfl (.refl _) .nil))))))) ⟨x3z _,rfl⟩ ?_
 rintro⟨k,m⟩ ⟨hk1,hm1⟩;simp only at hk1 hm1⊢;rcases x3v k p.procs.length with hk2|hk2;rotate_left 1
 ·obtain rfl:k=p.procs.length:=by omega
  rw[x3f (by omega),x3f (by omega)]at hm1;rw[x3f (by omega),x3b (by omega),x4b];conv=>whnf
  repeat' (apply bD<;>intro _<;>first|omega|conv=>whnf)
  exact hK m _ hm1 (Le.mk [] (by simp) (by simp) (by simp) (.r (.r (.r .nil))) (.cons rfl (.refl _) (.cons rfl (.refl _) (.cons rfl (.refl _) (.cons rfl (.of_eq (by rw[hUl])) (.cons rfl (.refl _) (.cons rfl (.refl _) .nil)))))))
 ·have hkj:p.procs[k]?=some p.procs[k]:=by simp
  have hpk:=FV hkj;obtain⟨o,ho⟩ : ∃o,O.getD k []=o:=⟨_,rfl⟩;have hOk:O[k]?=some o:=by rw[<-ho,x2l,x2n (by omega)];rfl
  have horise:o.Pairwise ltT:=by rw[<-ho];exact Q2 hO.rise k
  have hol25:o.length<=25:=by rw[<-ho];exact hO.len25 hc k
  have hwk:(wysB p)[k]?=some (QQ p k p.procs[k]):=by rw[B8 hk2,hpk]
  have hN:=fun x=>Uc ⟨sheetOf p,wysB p,D,U,(R).take k++I.drop k,O⟩ p hc k p.procs[k] hkj hwk o hOk horise (by omega) hDl hUl hd hu x;have hin:=Ft ⟨sheetOf p,wysB p,D,U,(R).take k++I.drop k,O⟩ p rfl hc k p.procs[k] hkj hwk o hN;have hrow:(R)[k]'(by omega)=WE (RL p k p.procs[k] D U o):=by
   rw[hR k hk2 (by omega),ho]
  have hol:(RL p k p.procs[k] D U o).length<=1000000000:=by
   have h1:(RL p k p.procs[k] D U o).length<=(p.globals++[KI]).length:=x5y _ _;rw[x2s,x3a]at h1;omega
  have hin1:SpecH prog 91 ([AV.ip (Book.cells ⟨sheetOf p,wysB p,D,U,(R).take k++I.drop k,O⟩),.int .i64 k].map .p) [] (OneRow (Hz (RL p k p.procs[k] D U o)) False):=hin;have hup:=EB (W:=R) (O:=I) (k:=k) (by omega) hWl;have hat:=q1s (W:=R) (O:=I) (k:=k) (by omega) hWl;have hln:=ED (W:=R) (O:=I) (k:=k) (by omega) hWl;have hde:=q1c (W:=R) (O:=I) (k:=k) (by omega) (by omega);have hEq:=WW ((R)[k]'(by omega)) (I[k]'(by omega));rw[hrow]at hEq hup hde;have hKU:(sheetOf p).l.length=(U.map eStrs).length:=by rw[x2m];omega
  have hIl':p.procs.length=(((R).take k++I.drop k).map eStrs).length:=by rw[hln];omega
  clear hin hrow hN;generalize RL p k p.procs[k] D U o=ol at*
  generalize hdq:decide (WE ol=I[k])=dq at hEq hde;have hdk:decide ((R).take k=I.take k) = !m:=by rw[hm1,Bool.not_not]
  rw[hdk]at hde;cases m<;>cases dq;all_goals
   conv=>whnf
   repeat' (first|((first|refine x2t rfl ?_|refine wI ?_|refine x4j k rfl (by omega) ?_|refine x5z k 0 (eStrs I[k]) (by omega) hat ?_|refine cP hEq ?_|refine x5i k 0 (eStrs I[k]) (eStrs (WE ol)) (by omega) hat (x3g 1) rfl ?_);conv=>whnf)|(apply bD<;>intro _<;>first|omega|conv=>whnf)|(apply bB<;>intro _<;>conv=>whnf)|(refine O5 6 rfl hin1 (.cons (q6y rfl (.hd (x5u some Qd) Qo) (.hd rfl hKD) (.hd rfl hKU) (.hd rfl hIl') (.hd rfl hOl)) (.cons (.p (Sub.refl _)) .nil)) (fun hnil=>hnil.elim) ?_;conv=>whnf)|(refine CallK.heap [(1000,6)] 0 (x3d (x3n _) x4x) (by refine x3j (j:=6) rfl rfl ?_ ?_;exact CSub.refl _;exact x4z) (JH ol hol) rfl rfl ?_;rintro l' H' ⟨rfl,rfl⟩;conv=>whnf))
  all_goals first
   |exact absurd (show false=true by assumption) (by decide)
   |exact absurd (show true=false by assumption) (by decide)
   |exact⟨(k+1,true),⟨hk2,by simp only;rw[hde];rfl⟩,by simp only;omega,Le.mk [] (by simp) (by simp) (by simp) (.r (.r (.cons (.p (Sub.tt rfl)) (.r (.r .nil))))) (.cons rfl (.refl _) (.cons rfl (.refl _) (.cons rfl (.refl _) (.cons rfl (.refl _) (.cons rfl (.refl _) (.cons rfl (.of_eq (x5u (Chunk.own 22 1) hup)) .nil))))))⟩
   |exact⟨(k+1,true),⟨hk2,by simp only;rw[hde];rfl⟩,by simp only;omega,Le.mk [] (by simp) (by simp) (by simp) (.r (.r (.r (.r (.r .nil))))) (.cons rfl (.refl _) (.cons rfl (.refl _) (.cons rfl (.refl _) (.cons rfl (.refl _) (.cons rfl (.refl _) (.cons rfl (.of_eq (x5u (Chunk.own 22 1) hup)) .nil))))))⟩
   |exact⟨(k+1,false),⟨hk2,by simp only;rw[hde];rfl⟩,by simp only;omega,Le.mk [] (by simp) (by simp) (by simp) (.r (.r (.r (.r (.r .nil))))) (.cons rfl (.refl _) (.cons rfl (.refl _) (.cons rfl (.refl _) (.cons rfl (.refl _) (.cons rfl (.refl _) (.cons rfl (.of_eq (x5u (Chunk.own 22 1) hup)) .nil))))))⟩
   |exact⟨(k+1,false),⟨hk2,by simp only;rw[hde];rfl⟩,by simp only;omega,Le.mk [] (by simp) (by simp) (by simp) (.r (.r (.cons (.p (Sub.ff rfl)) (.r (.r .nil))))) (.cons rfl (.refl _) (.cons rfl (.refl _) (.cons rfl (.refl _) (.cons rfl (.refl _) (.cons rfl (.refl _) (.cons rfl (.of_eq (x5u (Chunk.own 22 1) hup)) .nil))))))⟩
theorem q6c(h:k<p.procs.length)(h':k<(niB p D U O).length):(niB p D U O)[k]=WE (RL p k p.procs[k] D U (O.getD k [])):=by
 have h2:k<((List.range p.procs.length).map (niA p D U O)).length:=h';show((List.range p.procs.length).map (niA p D U O))[k]'h2=_;rw[x5t,x8t];unfold niA;rw[FV (x2n h)]
theorem q7v:∀(k:Nat)(h:k<p.procs.length)(h':k<(rdI p D O I).length),(rdI p D O I)[k]=WE (RL p k p.procs[k] D (usB p I) (O.getD k [])):=fun _ h h'=>q6c h h'
theorem Q5(p:Pg)(hf:Fit p):SpecP prog 48 [.agg p.cells] (fun r=>(QE p=true->r=.ip (QH p).cells)/\(QE p=false->r=.nilp)):=by
 refine sB K4 func48 rfl call48 ?_;conv=>whnf
 have hM:=Pv p hf;cases hc:QE p with
 | false=>
   rw[hc]at hM;repeat' (first|(refine cP hM ?_;conv=>whnf)|(apply bN<;>intro _<;>conv=>whnf))
   all_goals first
    |contradiction
    |exact⟨_,.p (Sub.refl _),fun h=>(by cases h),fun _=>rfl⟩
 | true =>
   rw[hc]at hM;obtain⟨hg,hpl,hcn⟩:=XJ hc;have hpm:(p.procs.map fun f=>AV.agg f.cells).length=p.procs.length:=x2m _;have hFl:=BM p (by omega) (by omega);repeat' (first|(refine cP hM ?_;conv=>whnf)|(apply bN<;>intro _<;>conv=>whnf))
   all_goals try contradiction
   refine X4 ⟨[(1,.p (.ip p.cells)),(3,.ptr 2 0)],[(3,Ga p 0),(2,R2 p (.hd 3 0 0) (.p .nils) (.p .nils) p.procs.length),(1,YJ (List.replicate p.procs.length [])),(0,YJ (List.replicate p.procs.length []))]⟩ ?_ ?_
   ·refine DrawK.of QY mixed (.cons 0 false (.cons 2 false (.cons 3 false (.cons 4 false (.cons 6 false (.cons 7 false (.cons 8 false (.fork3 1 (.fork 5 (.cons 9 true (.cons 10 true (.cons 11 true (.cons 12 true .nil)))) 9 (.cons 5 true (.cons 10 true (.cons 11 true (.cons 12 true .nil))))) 5 (.fork 1 (.cons 9 true (.cons 10 true (.cons 11 true (.cons 12 true .nil)))) 9 (.cons 1 true (.cons 10 true (.cons 11 true (.cons 12 true .nil))))) 9 (.fork 1 (.cons 5 true (.cons 10 true (.cons 11 true (.cons 12 true .nil)))) 5 (.cons 1 true (.cons 10 true (.cons 11 true (.cons 12 true .nil))))))))))))) (by kernel_rfl) ?_;conv=>whnf
    repeat' (first|((first|(refine iM fun _=>?_)|refine x2t rfl ?_|refine aR ?_|refine cP hFl ?_|refine x8v p.procs.length (by rw[hpm]) (by show 24*_<=140737488355328;omega) (by unfold maxLen;omega) ?_);conv=>whnf)|(refine x2t ?_ ?_<;>conv=>whnf))
    all_goals first
     |exact q6s
     |exact q9q
   conv=>whnf
   repeat' (refine iM fun _=>?_;conv=>whnf)
   have hnW:(wysB p).length=p.procs.length:=by unfold wysB;rw[x2m,x5a]
   refine LoopK.inv QY (fun k:Nat=>⟨[(1,.p (.ip p.cells)),(3,.ptr 2 0),(32,.p (.int .i64 (p.procs.map fun f=>AV.agg f.cells).length)),(33,.p (.int .i64 k))],[(3,Ga p k),(2,R2 p (.hd 3 0 k) (.p .nils) (.p .nils) p.procs.length),(1,YJ (List.replicate p.procs.length [])),(0,YJ (List.replicate p.procs.length []))]⟩) (fun k=>k<=p.procs.length) (fun k=>p.procs.length-k) 0 (Le.of_eq rfl) (x3z _) ?_;intro k hk;rcases x3v k p.procs.length with hk2|hk2
   ·have hkj:p.procs[k]?=some p.procs[k]:=by simp
    obtain⟨w1,w2,w3⟩:=Ux hc hkj;have hWn:=q5q p k p.procs[k] hkj (by omega) w1 w3;have hwl:(((wysB p).take k).map fun w=>AV.ip w.cells).length=k:=by rw[x2m,x3m,hnW];omega
    have hst:Ga p (k+1)=.own 115 1 ((((wysB p).take k).map fun w=>AV.ip w.cells)++[.ip (QQ p k p.procs[k]).cells]):=by
     unfold Ga;rw[x3u (by rw[hnW];exact hk2),x3y];have e:(wysB p)[k]'(by rw[hnW];exact hk2)=QQ p k p.procs[k]:=by
      have h1:=B8 hk2;rw[x2n (by rw[hnW];exact hk2),FV hkj]at h1;exact x5j h1
     rw[e];rfl
    conv=>whnf
    repeat' (first|((first|refine dA ?_|refine x2t rfl ?_|refine aD ?_|refine bP ?_|refine wI ?_|refine cP hWn ?_|refine x6y hwl.symm rfl (by show(k+1)*8<=140737488355328;omega) (by show k+1<=9223372036854775807;omega) (fun x hx=>by rcases x2a.1 hx with rfl;exact⟨rfl,rfl⟩) ?_);conv=>whnf)|(apply bD<;>intro _<;>first|omega|conv=>whnf)|(refine x2t ?_ ?_<;>conv=>whnf))
    all_goals first
     |exact⟨k+1,hk2,by omega,Le.of_eq (by rw[hst];rfl)⟩
   ·obtain rfl:k=p.procs.length:=by omega
    conv=>whnf
    repeat' (apply bD<;>intro _<;>first|omega|conv=>whnf)
    refine LoopK.inv QY (fun x:Bool×List (List Str)×List (List Str)=>⟨[(1,.p (.ip p.cells)),(3,.ptr 2 0),(5,.p (.bool x.1))],[(4,YJ x.2.1),(3,Ga p p.procs.length),(2,R2 p (.hd 3 0 p.procs.length) (.hd 4 0 x.2.1.length) (.p .nils) p.procs.length),(1,YJ x.2.2),(0,YJ (List.replicate p.procs.length []))]⟩)
     (fun x=>(∃r,x.2.2=itO p r)/\(x.1=false->rdO p x.2.2=x.2.2/\x.2.1=dfB p x.2.2)) (fun x=>2*(400-tot x.2.2)+x.1.toNat) (true,[],List.replicate p.procs.length [])
     (Le.mk [(4,YJ [])] (by simp[Chunk.new0,YJ];rfl) (by simp) (by simp) (.r (.r (.cons (.p (Sub.tt rfl)) .nil))) (.new x2r (.cons rfl (.refl _) (.cons rfl (.obj (.r (.r (.cons (.nil x2r) (.r (.r (.r .nil))))))) (.cons rfl (.refl _) (.cons rfl (.refl _) .nil)))))) ⟨⟨0,rfl⟩,fun h=>by cases h⟩ ?_
    rintro⟨m,D,O⟩ ⟨⟨r,hr⟩,hm⟩;simp only at hr hm⊢;have hO:=Y6 p r;rw[<-hr]at hO;cases m with
    | false =>
      obtain⟨hf1,hf2⟩:=hm rfl;conv=>whnf
      repeat' (refine Br.ff ?_;conv=>whnf)
      subst hf2;have hfixO:=hf1;clear hm hf1;have hDl:=Fh p O;have hd:∀d∈dfB p O,d.Pairwise ltT/\d.length<=1000000000:=fun d hd=>by
       obtain⟨it,hi,rfl⟩:=x3q.1 hd;have h1:=JA (MN (bkO p O) it.s);have h2:=V5 hc hO (t:=it.s) (by rw[<-JO];exact x3q.2 ⟨_,hi,rfl⟩);exact⟨ZB _,by omega⟩
      have hOn:=hO.len;obtain⟨D,hD⟩ : ∃D,dfB p O=D:=⟨_,rfl⟩;rw[hD]at hDl hd⊢;have hBk:∀I,(∃r,I=itI p D O r)->rdI p D O I=I->QH p=⟨sheetOf p,wysB p,D,usB p I,I,O⟩:=fun I h1 h2=>by
       have hB:BookR p ⟨sheetOf p,wysB p,D,usB p I,I,O⟩:=⟨rfl,rfl,⟨r,hr⟩,hfixO,hD.symm,h1,h2,rfl⟩;exact hB.eq.symm
      refine LoopK.inv QY (fun x:Bool×List (List Str)×List (List Str)=>⟨[(1,.p (.ip p.cells)),(3,.ptr 2 0),(10,.p (.bool x.1))],[(5,YJ x.2.1),(4,YJ D),(3,Ga p p.procs.length),(2,R2 p (.hd 3 0 p.procs.length) (.hd 4 0 D.length) (.hd 5 0 x.2.1.length) p.procs.length),(1,YJ O),(0,YJ x.2.2)]⟩)
       (fun x=>(∃r,x.2.2=itI p D O r)/\(x.1=false->rdI p D O x.2.2=x.2.2/\x.2.1=usB p x.2.2)) (fun x=>2*(400-tot x.2.2)+x.1.toNat) (true,[],List.replicate p.procs.length [])
       (Le.mk [(5,YJ [])] (by simp[Chunk.new0,YJ];rfl) (by simp) (by simp) (.r (.r (.cons (.p (Sub.tt rfl)) .nil))) (.new x2r (.cons rfl (.refl _) (.cons rfl (.refl _) (.cons rfl (.obj (.r (.r (.r (.cons (.nil x2r) (.r (.r .nil))))))) (.cons rfl (.refl _) (.cons rfl (.refl _) .nil))))))) ⟨⟨0,rfl⟩,fun h=>by cases h⟩ ?_
      rintro⟨m,U,I⟩ ⟨⟨q,hq⟩,hm⟩;simp only at hq hm⊢;have hI:=Y5 p D O q;rw[<-hq]at hI;have hOl:p.procs.length=(O.map eStrs).length:=by rw[x2m,hO.len]
      have hKD:D.length=(D.map eStrs).length:=by rw[x2m]
      cases m with
      | false=>
        obtain⟨hf1,rfl⟩:=hm rfl;have hbk:=hBk I ⟨q,hq⟩ hf1;have hIl:p.procs.length=(I.map eStrs).length:=by rw[x2m,hI.len]
        have hKU:(usB p I).length=((usB p I).map eStrs).length:=by rw[x2m]
        conv=>whnf
        repeat' (refine Br.ff ?_;conv=>whnf)
        all_goals first
         |exact⟨_,q6y rfl (.hd (x5u some Qd) Qo) (.hd rfl hKD) (.hd rfl hKU) (.hd rfl hIl) (.hd rfl hOl),fun _=>by rw[hbk],fun h=>by cases h⟩
      | true=>
        have hLl:((sheetOf p).l.map fun i=>AV.agg i.cells).length=(sheetOf p).l.length:=x2m _;obtain⟨_,_,_,hsl,_⟩:=QJ p;have hUl:(usB p I).length=(sheetOf p).l.length:=x2m _;have hIl:p.procs.length=(I.map eStrs).length:=by rw[x2m,hI.len]
        conv=>whnf
        repeat' ((first|(refine iM fun _=>?_)|refine x2t rfl ?_|refine Br.tt ?_);conv=>whnf)
        refine LoopK.inv QY (fun k:Nat=>⟨[(1,.p (.ip p.cells)),(3,.ptr 2 0),(10,.p .ff),(124,.p (VS (sheetOf p).l)),(125,.p (.int .i64 ((sheetOf p).l.map fun i=>AV.agg i.cells).length)),(126,.p (.int .i64 k))],[(5,YJ ((usB p I).take k)),(4,YJ D),(3,Ga p p.procs.length),(2,R2 p (.hd 3 0 p.procs.length) (.hd 4 0 D.length) (.hd 5 0 k) p.procs.length),(1,YJ O),(0,YJ I)]⟩) (fun k=>k<=(sheetOf p).l.length) (fun k=>(sheetOf p).l.length-k) 0
         (Le.trans (s':=⟨[(1,.p (.ip p.cells)),(3,.ptr 2 0),(10,.p .ff),(124,.p (VS (sheetOf p).l)),(125,.p (.int .i64 ((sheetOf p).l.map fun i=>AV.agg i.cells).length)),(126,.p (.int .i64 (0:Nat)))],[(4,YJ D),(3,Ga p p.procs.length),(2,R2 p (.hd 3 0 p.procs.length) (.hd 4 0 D.length) (.p .nils) p.procs.length),(1,YJ O),(0,YJ I)]⟩) (lE) (Le.mk [(5,YJ [])] (by simp[Chunk.new0,YJ];rfl) (by simp) (by simp) (.r (.r (.r (.r (.r (.r .nil)))))) (.new x2r (.cons rfl (.refl _) (.cons rfl (.refl _) (.cons rfl (.obj (.r (.r (.r (.cons (.nil x2r) (.r (.r .nil))))))) (.cons rfl (.refl _) (.cons rfl (.refl _) .nil)))))))) (x3z _) ?_
        intro k hk;rcases x3v k (sheetOf p).l.length with hk2|hk2;rotate_left 1
        ·obtain rfl:k=(sheetOf p).l.length:=by omega
         have hWl:(rdI p D O I).length=I.length:=by rw[hI.len];unfold rdI niB;rw[x2m,x5a]
         have hIn:=hI.len;rw[show(usB p I).take (sheetOf p).l.length=usB p I from x3f (by omega)];have hu:∀d∈usB p I,d.Pairwise ltT/\d.length<=1000000000:=fun d hd=>by
          obtain⟨it,hi,rfl⟩:=x3q.1 hd;have h1:=JA (MG (bkI p I) it.s);have h2:=TJ hc hI (t:=it.s) (by rw[<-JO];exact x3q.2 ⟨_,hi,rfl⟩);exact⟨ZB _,by omega⟩
         conv=>whnf
         repeat' (first|(refine iM fun _=>?_;conv=>whnf)|(apply bD<;>intro _<;>first|omega|conv=>whnf))
         have hW:rdI p D O I=itI p D O (q+1):=by rw[hq];rfl
         refine q3m hc hO hDl hUl hd hu hIn (hWl.trans hIn) q7v fun m s hm1 hle=>?_;conv=>whnf
         refine⟨(m,usB p I,rdI p D O I),⟨⟨q+1,hW⟩,fun h=>?_⟩,?_,hle⟩
         ·simp only at h⊢;rw[h]at hm1;have h1:rdI p D O I=I:=by simpa using hm1
          rw[h1];exact⟨h1,rfl⟩
         ·simp only;have hOW:tot (rdI p D O I)<=400:=(q1g p D (usB p I) O).tot hc;cases m with
          | true=>
            have h1:rdI p D O I≠I:=by simpa using hm1
            have h2:=RS hc (D:=D) (O:=O) (k:=q) (by rw[<-hW,<-hq];exact h1);rw[<-hW,<-hq]at h2;simp only[Bool.toNat_true];omega
          | false=>
            have h1:rdI p D O I=I:=by simpa using hm1
            rw[h1];simp only[Bool.toNat_true,Bool.toNat_false];omega
        have hmem:(sheetOf p).l[k].s∈VN p:=by rw[<-JO];exact x3q.2 ⟨_,x3w hk2,rfl⟩
        have hKl:k=(((usB p I).take k).map eStrs).length:=by rw[x2m,x3m];omega
        have hd0:=Ja ⟨sheetOf p,wysB p,D,(usB p I).take k,I,O⟩ (sheetOf p).l[k].s (fun h4=>hI.use hc rfl rfl hmem h4);rw[EN (p:=p) (I:=I) rfl rfl]at hd0;have hd1:SpecH prog 90 ([AV.ip (Book.cells ⟨sheetOf p,wysB p,D,(usB p I).take k,I,O⟩),.agg (sheetOf p).l[k].s.cells].map .p) [] (OneRow (Hz (MG (bkI p I) (sheetOf p).l[k].s)) (MG (bkI p I) (sheetOf p).l[k].s=[])):=hd0;have hdl:=TJ hc hI hmem;have hst:=M6 (L:=usB p I) (k:=k) (by omega) (o:=WE (MG (bkI p I) (sheetOf p).l[k].s)) (by unfold usB;rw[x5t]);generalize hds:MG (bkI p I) (sheetOf p).l[k].s=ds at*
        clear hd0;conv=>whnf
        repeat' (first|((first|refine dA ?_|refine x2t rfl ?_|refine aD ?_|refine bP ?_|(refine iA fun _=>?_)|refine wI ?_|refine x6y hKl rfl (by show(k+1)*24<=140737488355328;omega) (by show k+1<=9223372036854775807;omega) (fun x hx=>by rcases x2a.1 hx with rfl;exact⟨rfl,rfl⟩) ?_);conv=>whnf)|(apply bD<;>intro _<;>first|omega|conv=>whnf)|(refine O5 6 rfl hd1 (.cons (q6y rfl (.hd (x5u some Qd) Qo) (.hd rfl hKD) (.hd rfl hKl) (.hd rfl hIl) (.hd rfl hOl)) (.cons (.p (Sub.refl _)) .nil)) (fun hnil=>?_) ?_<;>conv=>whnf)|(refine CallK.nil 6 9 1 rfl (.row .nil) ?_;refine CallK.heap [(1000,6)] 0 (x3d (x3n _) x4x) (by refine x3j (j:=6) rfl rfl ?_ ?_;exact CSub.refl _;exact x4z) (JH [] (by simp)) rfl rfl ?_;rintro l' H' ⟨rfl,rfl⟩;conv=>whnf)|(refine CallK.heap [(1000,6)] 0 (x3d (x3n _) x4x) (by refine x3j (j:=6) rfl rfl ?_ ?_;exact CSub.refl _;exact x4z) (JH ds (by omega)) rfl rfl ?_;rintro l' H' ⟨rfl,rfl⟩;conv=>whnf)|(refine x2t ?_ ?_<;>conv=>whnf))
        all_goals first
         |exact⟨k+1,hk2,by omega,Le.of_eq (by rw[hst,hnil];rfl)⟩
         |exact⟨k+1,hk2,by omega,Le.of_eq (by rw[hst];rfl)⟩
    | true =>
      have hLl:((sheetOf p).l.map fun i=>AV.agg i.cells).length=(sheetOf p).l.length:=x2m _;obtain⟨_,_,_,hsl,_⟩:=QJ p;conv=>whnf
      repeat' ((first|(refine iM fun _=>?_)|refine x2t rfl ?_|refine Br.tt ?_);conv=>whnf)
      refine LoopK.inv QY (fun k:Nat=>⟨[(1,.p (.ip p.cells)),(3,.ptr 2 0),(5,.p .ff),(62,.p (VS (sheetOf p).l)),(63,.p (.int .i64 ((sheetOf p).l.map fun i=>AV.agg i.cells).length)),(64,.p (.int .i64 k))],[(4,YJ ((dfB p O).take k)),(3,Ga p p.procs.length),(2,R2 p (.hd 3 0 p.procs.length) (.hd 4 0 k) (.p .nils) p.procs.length),(1,YJ O),(0,YJ (List.replicate p.procs.length []))]⟩) (fun k=>k<=(sheetOf p).l.length) (fun k=>(sheetOf p).l.length-k) 0
       (Le.trans (s':=⟨[(1,.p (.ip p.cells)),(3,.ptr 2 0),(5,.p .ff),(62,.p (VS (sheetOf p).l)),(63,.p (.int .i64 ((sheetOf p).l.map fun i=>AV.agg i.cells).length)),(64,.p (.int .i64 (0:Nat)))],[(3,Ga p p.procs.length),(2,R2 p (.hd 3 0 p.procs.length) (.p .nils) (.p .nils) p.procs.length),(1,YJ O),(0,YJ (List.replicate p.procs.length []))]⟩) (lE) (Le.mk [(4,YJ [])] (by simp[Chunk.new0,YJ];rfl) (by simp) (by simp) (.r (.r (.r (.r (.r (.r .nil)))))) (.new x2r (.cons rfl (.refl _) (.cons rfl (.obj (.r (.r (.cons (.nil x2r) (.r (.r (.r .nil))))))) (.cons rfl (.refl _) (.cons rfl (.refl _) .nil))))))) (x3z _) ?_
      intro k hk;rcases x3v k (sheetOf p).l.length with hk2|hk2;rotate_left 1
      ·obtain rfl:k=(sheetOf p).l.length:=by omega
       have hDl:=Fh p O;have hWl:(rdO p O).length=O.length:=by rw[hO.len];unfold rdO otB;rw[x2m,x5a]
       have hOn:=hO.len;rw[show(dfB p O).take (sheetOf p).l.length=dfB p O from x3f (by omega)];have hd:∀d∈dfB p O,d.length<=1000:=fun d hd=>by
        obtain⟨it,hi,rfl⟩:=x3q.1 hd;have h1:=JA (MN (bkO p O) it.s);have h2:=V5 hc hO (t:=it.s) (by rw[<-JO];exact x3q.2 ⟨_,hi,rfl⟩);omega
       conv=>whnf
       repeat' (first|(refine iM fun _=>?_;conv=>whnf)|(apply bD<;>intro _<;>first|omega|conv=>whnf))
       refine LoopK.inv QY (fun x:Nat×Bool=>⟨[(1,.p (.ip p.cells)),(3,.ptr 2 0),(5,.p (.bool x.2)),(85,.p (.int .i64 (p.procs.map fun f=>AV.agg f.cells).length)),(86,.p (.int .i64 x.1))],[(4,YJ (dfB p O)),(3,Ga p p.procs.length),(2,R2 p (.hd 3 0 p.procs.length) (.hd 4 0 (sheetOf p).l.length) (.p .nils) p.procs.length),(1,YJ ((rdO p O).take x.1++O.drop x.1)),(0,YJ (List.replicate p.procs.length []))]⟩)
        (fun x=>x.1<=p.procs.length/\x.2 = !decide ((rdO p O).take x.1=O.take x.1)) (fun x=>p.procs.length-x.1) (0,false)
        (Le.mk [] (by simp) (by simp) (by simp) (.r (.r (.cons (.p (Sub.ff rfl)) (.r (.r .nil))))) (.cons rfl (.refl _) (.cons rfl (.refl _) (.cons rfl (.refl _) (.cons rfl (.refl _) (.cons rfl (.refl _) .nil)))))) ⟨x3z _,rfl⟩ ?_
       rintro⟨k,m⟩ ⟨hk1,hm1⟩;simp only at hk1 hm1⊢;rcases x3v k p.procs.length with hk2|hk2;rotate_left 1
       ·obtain rfl:k=p.procs.length:=by omega
        rw[x3f (by omega),x3f (by omega)]at hm1;rw[x3f (by omega),x3b (by omega),x4b];have hW:rdO p O=itO p (r+1):=by rw[hr];rfl
        conv=>whnf
        repeat' (apply bD<;>intro _<;>first|omega|conv=>whnf)
        refine⟨(m,dfB p O,rdO p O),⟨⟨r+1,hW⟩,fun h=>?_⟩,?_,Le.mk [] (by simp) (by simp) (by simp) (.r (.r (.r .nil))) (.cons rfl (.refl _) (.cons rfl (.refl _) (.cons rfl (.of_eq (by rw[hDl])) (.cons rfl (.refl _) (.cons rfl (.refl _) .nil)))))⟩
        ·simp only at h⊢;rw[h]at hm1;have h1:rdO p O=O:=by simpa using hm1
         rw[h1];exact⟨h1,rfl⟩
        ·simp only;have hOW:=(q1f p (dfB p O)).tot hc;have hOW:tot (rdO p O)<=400:=hOW;cases m with
         | true=>
           have h1:rdO p O≠O:=by simpa using hm1
           have h2:=RC (p:=p) (k:=r) (by rw[<-hW,<-hr];exact h1);rw[<-hW,<-hr]at h2;simp only[Bool.toNat_true];omega
         | false=>
           have h1:rdO p O=O:=by simpa using hm1
           rw[h1];simp only[Bool.toNat_true,Bool.toNat_false];omega
       have hkj:p.procs[k]?=some p.procs[k]:=by simp
       have hpk:=FV hkj;have hWk:wysB p=(wysB p):=rfl;have hout:=Jc ⟨sheetOf p,wysB p,dfB p O,[],List.replicate p.procs.length [],(rdO p O).take k++O.drop k⟩ p rfl hc k p.procs[k] hkj (by show(wysB p)[k]?=_;rw[B8 hk2,hpk]) hDl hd;have hrow:(rdO p O)[k]'(by omega)=WE (Ms p k p.procs[k] (dfB p O) (itsOf p k p.procs[k])):=by
        unfold rdO otB;rw[x5t,x8t];unfold otA;rw[hpk]
       have hol:(Ms p k p.procs[k] (dfB p O) (itsOf p k p.procs[k])).length<=1000000000:=by
        have h1:=T9 (p:=p) (i:=k) (f:=p.procs[k]) hd (itsOf p k p.procs[k]);have h2:(itsOf p k p.procs[k]).length<=200:=by
         obtain⟨_,_,_,_,hsp⟩:=QJ p;obtain⟨_,_,h3,h4⟩:=hsp k _ hkj;have h5:=x5u List.length h4;rw[x5f,x3m]at h5;have e1:itL (k:Nat) 0 (-1) 0 (QB p.procs k) p.procs[k].body=itsOf p k p.procs[k]:=rfl;rw[e1]at h5;omega
        have h3:(itsOf p k p.procs[k]).length*1000<=200*1000:=x4s _ h2;omega
       have hout1:SpecH prog 88 ([AV.ip (Book.cells ⟨sheetOf p,wysB p,dfB p O,[],List.replicate p.procs.length [],(rdO p O).take k++O.drop k⟩),.int .i64 k].map .p) [] (OneRow (Hz (Ms p k p.procs[k] (dfB p O) (itsOf p k p.procs[k]))) False):=hout;have hup:=EB (W:=rdO p O) (O:=O) (k:=k) (by omega) hWl;have hat:=q1s (W:=rdO p O) (O:=O) (k:=k) (by omega) hWl;have hln:=ED (W:=rdO p O) (O:=O) (k:=k) (by omega) hWl;have hde:=q1c (W:=rdO p O) (O:=O) (k:=k) (by omega) (by omega);have hEq:=WW ((rdO p O)[k]'(by omega)) (O[k]'(by omega));rw[hrow]at hEq hup hde;have hKl:(sheetOf p).l.length=((dfB p O).map eStrs).length:=by rw[x2m];omega
       have hOl:p.procs.length=(((rdO p O).take k++O.drop k).map eStrs).length:=by rw[hln];omega
       have hIl:p.procs.length=((List.replicate p.procs.length ([]:List Str)).map eStrs).length:=by rw[x2m,x5x]
       clear hout hrow;generalize Ms p k p.procs[k] (dfB p O) (itsOf p k p.procs[k])=ol at*
       generalize hdq:decide (WE ol=O[k])=dq at hEq hde;have hdk:decide ((rdO p O).take k=O.take k) = !m:=by rw[hm1,Bool.not_not]
       rw[hdk]at hde;cases m<;>cases dq;all_goals
        conv=>whnf
        repeat' (first|((first|refine x2t rfl ?_|refine wI ?_|refine x4j k rfl (by omega) ?_|refine x5z k 0 (eStrs O[k]) (by omega) hat ?_|refine cP hEq ?_|refine x5i k 0 (eStrs O[k]) (eStrs (WE ol)) (by omega) hat (x3g 1) rfl ?_);conv=>whnf)|(apply bD<;>intro _<;>first|omega|conv=>whnf)|(apply bB<;>intro _<;>conv=>whnf)|(refine O5 5 rfl hout1 (.cons (q6y rfl (.hd (x5u some Qd) Qo) (.hd rfl hKl) (.p Sub.nils) (.hd rfl hIl) (.hd rfl hOl)) (.cons (.p (Sub.refl _)) .nil)) (fun hnil=>hnil.elim) ?_;conv=>whnf)|(refine CallK.heap [(1000,5)] 0 (x3d (x3n _) x4x) (by refine x3j (j:=5) rfl rfl ?_ ?_;exact CSub.refl _;exact x4z) (JH ol hol) rfl rfl ?_;rintro l' H' ⟨rfl,rfl⟩;conv=>whnf))
       all_goals first
        |exact absurd (show false=true by assumption) (by decide)
        |exact absurd (show true=false by assumption) (by decide)
        |exact⟨(k+1,true),⟨hk2,by simp only;rw[hde];rfl⟩,by simp only;omega,Le.mk [] (by simp) (by simp) (by simp) (.r (.r (.cons (.p (Sub.tt rfl)) (.r (.r .nil))))) (.cons rfl (.refl _) (.cons rfl (.refl _) (.cons rfl (.refl _) (.cons rfl (.of_eq (x5u (Chunk.own 22 1) hup)) (.cons rfl (.refl _) .nil)))))⟩
        |exact⟨(k+1,true),⟨hk2,by simp only;rw[hde];rfl⟩,by simp only;omega,Le.mk [] (by simp) (by simp) (by simp) (.r (.r (.r (.r (.r .nil))))) (.cons rfl (.refl _) (.cons rfl (.refl _) (.cons rfl (.refl _) (.cons rfl (.of_eq (x5u (Chunk.own 22 1) hup)) (.cons rfl (.refl _) .nil)))))⟩
        |exact⟨(k+1,false),⟨hk2,by simp only;rw[hde];rfl⟩,by simp only;omega,Le.mk [] (by simp) (by simp) (by simp) (.r (.r (.r (.r (.r .nil))))) (.cons rfl (.refl _) (.cons rfl (.refl _) (.cons rfl (.refl _) (.cons rfl (.of_eq (x5u (Chunk.own 22 1) hup)) (.cons rfl (.refl _) .nil)))))⟩
        |exact⟨(k+1,false),⟨hk2,by simp only;rw[hde];rfl⟩,by simp only;omega,Le.mk [] (by simp) (by simp) (by simp) (.r (.r (.cons (.p (Sub.ff rfl)) (.r (.r .nil))))) (.cons rfl (.refl _) (.cons rfl (.refl _) (.cons rfl (.refl _) (.cons rfl (.of_eq (x5u (Chunk.own 22 1) hup)) (.cons rfl (.refl _) .nil)))))⟩
      have hmem:(sheetOf p).l[k].s∈VN p:=by rw[<-JO];exact x3q.2 ⟨_,x3w hk2,rfl⟩
      have hDl:=Fh p O;have hKl:k=(((dfB p O).take k).map eStrs).length:=by rw[x2m,x3m];omega
      have hOl:p.procs.length=(O.map eStrs).length:=by rw[x2m,hO.len]
      have hIl:p.procs.length=((List.replicate p.procs.length ([]:List Str)).map eStrs).length:=by rw[x2m,x5x]
      have hd0:=Js ⟨sheetOf p,wysB p,(dfB p O).take k,[],List.replicate p.procs.length [],O⟩ (sheetOf p).l[k].s (fun h4=>hO.call hc rfl rfl hmem h4);rw[Ce rfl rfl]at hd0;have hd1:SpecH prog 87 ([AV.ip (Book.cells ⟨sheetOf p,wysB p,(dfB p O).take k,[],List.replicate p.procs.length [],O⟩),.agg (sheetOf p).l[k].s.cells].map .p) [] (OneRow (Hz (MN (bkO p O) (sheetOf p).l[k].s)) (MN (bkO p O) (sheetOf p).l[k].s=[])):=hd0;have hdl:=V5 hc hO hmem;have hst:=M6 (L:=dfB p O) (k:=k) (by omega) (o:=WE (MN (bkO p O) (sheetOf p).l[k].s)) (by unfold dfB;rw[x5t]);generalize hds:MN (bkO p O) (sheetOf p).l[k].s=ds at*
      clear hd0;conv=>whnf
      repeat' (first|((first|refine dA ?_|refine x2t rfl ?_|refine aD ?_|refine bP ?_|(refine iA fun _=>?_)|refine wI ?_|refine x6y hKl rfl (by show(k+1)*24<=140737488355328;omega) (by show k+1<=9223372036854775807;omega) (fun x hx=>by rcases x2a.1 hx with rfl;exact⟨rfl,rfl⟩) ?_);conv=>whnf)|(apply bD<;>intro _<;>first|omega|conv=>whnf)|(refine O5 5 rfl hd1 (.cons (q6y rfl (.hd (x5u some Qd) Qo) (.hd rfl hKl) (.p Sub.nils) (.hd rfl hIl) (.hd rfl hOl)) (.cons (.p (Sub.refl _)) .nil)) (fun hnil=>?_) ?_<;>conv=>whnf)|(refine CallK.nil 5 9 1 rfl (.row .nil) ?_;refine CallK.heap [(1000,5)] 0 (x3d (x3n _) x4x) (by refine x3j (j:=5) rfl rfl ?_ ?_;exact CSub.refl _;exact x4z) (JH [] (by simp)) rfl rfl ?_;rintro l' H' ⟨rfl,rfl⟩;conv=>whnf)|(refine CallK.heap [(1000,5)] 0 (x3d (x3n _) x4x) (by refine x3j (j:=5) rfl rfl ?_ ?_;exact CSub.refl _;exact x4z) (JH ds (by omega)) rfl rfl ?_;rintro l' H' ⟨rfl,rfl⟩;conv=>whnf)|(refine x2t ?_ ?_<;>conv=>whnf))
      all_goals first
       |exact⟨k+1,hk2,by omega,Le.of_eq (by rw[hst,hnil];rfl)⟩
       |exact⟨k+1,hk2,by omega,Le.of_eq (by rw[hst];rfl)⟩
def JS(p:Pg)(n:Str):Int:=Xc (fun f=>f.name==n) p.procs
noncomputable def q7x(p:Pg)(n:Str):List Str:=if QE p=true/\0<=JS p n then(QH p).outs.getD (JS p n).toNat []else []
noncomputable def q6p(p:Pg)(n:Str):List Str:=if QE p=true/\0<=JS p n then(QH p).ins.getD (JS p n).toNat []else []
noncomputable def defsN(p:Pg)(id:Int):List Str:=if QE p=true/\1<=id/\id<=(sheetOf p).l.length then(QH p).defs.getD (id-1).toNat []else []
noncomputable def usesN(p:Pg)(id:Int):List Str:=if QE p=true/\1<=id/\id<=(sheetOf p).l.length then(QH p).uses.getD (id-1).toNat []else []
theorem R7{n:Str}(h:0<=JS p n):(JS p n).toNat<p.procs.length:=by
 unfold JS Xc at h⊢;cases hq:p.procs.any fun f=>f.name==n with
 | true=>
   rw[x3p];obtain⟨x,h1,h2⟩:=x4o.1 hq;have:=List.findIdx_lt_length_of_exists (p:=fun f:Pr=>f.name==n) ⟨x,h1,h2⟩;simpa using this
 | false=>
   rw[hq,x3t]at h;omega
theorem E6(h:k<O.length):(O.map eStrs)[k]?=some (eStrs (O.getD k [])):=by
 rw[x2e,x2l,x2n h];rfl
theorem Sk(p:Pg)(hf:Fit p)(id:Int):SpecP prog 28 [.agg p.cells,.int .i64 id] (fun r=>r=eStrs (defsN p id)):=by
 refine sB Bh func28 rfl call28 ?_;conv=>whnf
 have hB:=Q5 p hf;cases hc:QE p with
 | false=>
   have e:defsN p id=[]:=by unfold defsN;rw[if_neg (by rw[hc];simp)]
   rw[e];have hB2:=hB.mono (R':=fun r=>r=.nilp) fun r hr=>hr.2 hc;repeat' (refine cP hB2 ?_;conv=>whnf)
   all_goals first
    |contradiction
    |exact⟨_,.p Sub.nils,rfl⟩
 | true=>
   have hB2:=hB.mono (R':=fun r=>r=.ip (QH p).cells) fun r hr=>hr.1 hc;have hR:=UD hc;have hD:(QH p).defs.length=(sheetOf p).l.length:=by rw[hR.defs];exact x2m _
   have hcn:=(XJ hc).2.2;obtain⟨_,_,_,hsl,_⟩:=QJ p;have hH:SpecP prog 52 [.ip (QH p).s.cells,.int .i64 id] (fun r=>r=.bool (decide (1<=id)&&decide (id<=(sheetOf p).l.length))):=by
    have h1:=KS (QH p).s id;rw[show(QH p).s.l=(sheetOf p).l by rw[hR.s]]at h1;exact h1
   have hg:=fun h=>E6 (O:=(QH p).defs) (k:=(id-1).toNat) h;have e:defsN p id=if 1<=id/\id<=(sheetOf p).l.length then(QH p).defs.getD (id-1).toNat []else []:=by
    unfold defsN;by_cases h0:1<=id/\id<=(sheetOf p).l.length
    ·rw[if_pos ⟨hc,h0⟩,if_pos h0]
    ·rw[if_neg (fun h=>h0 h.2),if_neg h0]
   rw[e];generalize(sheetOf p).l.length=sl at*
   generalize QH p=b at*
   by_cases h0:1<=id/\id<=(sl:Int)
   ·rw[if_pos h0];rw[show(decide (1<=id)&&decide (id<=(sl:Int)))=true by simp[h0]]at hH;have hg:=hg (by omega);repeat' (first|((first|refine wI ?_|refine cP hB2 ?_|refine cP hH ?_|(refine IdxK.at (k:=(id-1).toNat) (by omega) hg rfl ?_));conv=>whnf)|(apply bN<;>intro _<;>conv=>whnf))
    all_goals first
     |contradiction
     |exact RetK.p rfl
     |exact⟨_,.p (Sub.refl _),rfl⟩
   ·rw[if_neg h0];rw[show(decide (1<=id)&&decide (id<=(sl:Int)))=false by rw[x7d,x5k,x5k];omega]at hH;repeat' (first|((first|refine cP hB2 ?_|refine cP hH ?_);conv=>whnf)|(apply bN<;>intro _<;>conv=>whnf))
    all_goals first
     |contradiction
     |exact⟨_,.p Sub.nils,rfl⟩
theorem Sg(p:Pg)(hf:Fit p)(id:Int):SpecP prog 25 [.agg p.cells,.int .i64 id] (fun r=>r=eStrs (usesN p id)):=by
 refine sB Bf func25 rfl call25 ?_;conv=>whnf
 have hB:=Q5 p hf;cases hc:QE p with
 | false=>
   have e:usesN p id=[]:=by unfold usesN;rw[if_neg (by rw[hc];simp)]
   rw[e];have hB2:=hB.mono (R':=fun r=>r=.nilp) fun r hr=>hr.2 hc;repeat' (refine cP hB2 ?_;conv=>whnf)
   all_goals first
    |contradiction
    |exact⟨_,.p Sub.nils,rfl⟩
 | true=>
   have hB2:=hB.mono (R':=fun r=>r=.ip (QH p).cells) fun r hr=>hr.1 hc;have hR:=UD hc;have hD:(QH p).uses.length=(sheetOf p).l.length:=by rw[hR.uses];exact x2m _
   have hcn:=(XJ hc).2.2;obtain⟨_,_,_,hsl,_⟩:=QJ p;have hH:SpecP prog 52 [.ip (QH p).s.cells,.int .i64 id] (fun r=>r=.bool (decide (1<=id)&&decide (id<=(sheetOf p).l.length))):=by
    have h1:=KS (QH p).s id;rw[show(QH p).s.l=(sheetOf p).l by rw[hR.s]]at h1;exact h1
   have hg:=fun h=>E6 (O:=(QH p).uses) (k:=(id-1).toNat) h;have e:usesN p id=if 1<=id/\id<=(sheetOf p).l.length then(QH p).uses.getD (id-1).toNat []else []:=by
    unfold usesN;by_cases h0:1<=id/\id<=(sheetOf p).l.length
    ·rw[if_pos ⟨hc,h0⟩,if_pos h0]
    ·rw[if_neg (fun h=>h0 h.2),if_neg h0]
   rw[e];generalize(sheetOf p).l.length=sl at*
   generalize QH p=b at*
   by_cases h0:1<=id/\id<=(sl:Int)
   ·rw[if_pos h0];rw[show(decide (1<=id)&&decide (id<=(sl:Int)))=true by simp[h0]]at hH;have hg:=hg (by omega);repeat' (first|((first|refine wI ?_|refine cP hB2 ?_|refine cP hH ?_|(refine IdxK.at (k:=(id-1).toNat) (by omega) hg rfl ?_));conv=>whnf)|(apply bN<;>intro _<;>conv=>whnf))
    all_goals first
     |contradiction
     |exact RetK.p rfl
     |exact⟨_,.p (Sub.refl _),rfl⟩
   ·rw[if_neg h0];rw[show(decide (1<=id)&&decide (id<=(sl:Int)))=false by rw[x7d,x5k,x5k];omega]at hH;repeat' (first|((first|refine cP hB2 ?_|refine cP hH ?_);conv=>whnf)|(apply bN<;>intro _<;>conv=>whnf))
    all_goals first
     |contradiction
     |exact⟨_,.p Sub.nils,rfl⟩
section
variable {a b:Str}{p:Pg}{i:Nat}{f:Pr}
end
section
variable {P:Program}{T:Tab}{N:Nat}{σ:Mem}{β:Lab}{a:Act}{w:World}{o:Oper}{K:St->Prop}{s:St}
end
theorem Me{g:FuncId}{args:List LV}{dst:Option Nat}{avs:List AV}(H1 H0:Heap)(sl0:List (Nat×LV))(hH:s.H=H1++H0)(ha:FrzL H1 args avs)(hsl:∀i,getS sl0 i=getS s.sl i\/getS sl0 i=.p .any)(h:CallK P N g (avs.map .p) dst ⟨sl0,H0⟩ K):CallK P N g args dst s K:=by
 refine⟨fun σ β a w hr vals hn hv=>?_⟩;obtain⟨hlen,hget⟩:=ha.get;have hheap:=hr.heap;rw[hH]at hheap;have hl1:∀k,k∈H1.map (·.1)->k∈(H1++H0).map (·.1):=fun k hk=>by rw[x3y];exact x4h _ hk
 have hl0:∀k,k∈H0.map (·.1)->k∈(H1++H0).map (·.1):=fun k hk=>by rw[x3y];exact x4f _ hk
 have hnd:=hheap.nodup;rw[x3y,x4l]at hnd;have hr1:HRel σ β H1 w:=⟨hheap.mem,fun k c hc=>hheap.chunks k c (x4h _ hc),hnd.1,fun k hk=>hheap.apart k (hl1 k hk),fun k hk k' hk'=>hheap.inj k (hl1 k hk) k' (hl1 k' hk')⟩;obtain⟨τ,h5,h6,h7,h8⟩:=DW hr1;have hno:∀b,owns β H1 b->owns β H0 b->False:=fun b ⟨k,hk,i,hi,hb⟩ ⟨k',hk',i',hi',hb'⟩=>by
  have he:=hheap.inj k (hl1 k hk) k' (hl0 k' hk') i i' hi hi' b hb hb';exact hnd.2.2 k hk k' hk' he
 have hrel:Rel N τ β ⟨sl0,H0⟩ a w:=by
  refine⟨hr.size,hr.defers,fun i=>?_,⟨h6,fun k c hc=>(hheap.chunks k c (x4f _ hc)).mono h5 fun _ _ _ _=>rfl,hnd.2.1,fun k hk i hi b hb=>?_,fun k hk k' hk'=>hheap.inj k (hl0 k hk) k' (hl0 k' hk')⟩⟩
  ·rcases hsl i with he|he
   ·show RepL τ β (getS sl0 i) _;rw[he];exact(hr.slots i).mono h5
   ·show RepL τ β (getS sl0 i) _;rw[he];exact .p (.any _)
  ·have h9:=hheap.apart k (hl0 k hk) i hi b hb;refine⟨?_,h9.2⟩;cases hq:τ b with
   |none=>rfl
   | some c=>
     rcases h7 b (by rw[hq];simp)with h10|h10
     ·exact absurd h9.1 h10
     ·exact(hno b h10 ⟨k,hk,i,hi,hb⟩).elim
 have hlat:Later σ β s.H w τ β H0 w:=by
  rw[hH];refine⟨h5,Frm.refl _ _,fun b h0 h1=>?_,fun b ⟨k,hk,r⟩=>.inl ⟨k,hl0 k hk,r⟩,fun _ _ _=>rfl⟩;rcases h7 b h1 with h2|⟨k,hk,r⟩
  ·exact absurd h0 h2
  ·exact .inl ⟨k,hl1 k hk,r⟩
 obtain⟨q1,q2⟩:=h.ok τ β a w hrel vals (by rw[x2m,<-hlen];exact hn) fun j l hj=>by
  rw[x2e]at hj;cases hq:avs[j]?with
  |none=>rw[hq]at hj;cases hj
  | some c=>
    rw[hq]at hj;cases hj;obtain⟨l,h1,h2⟩:=hget j c hq;exact .p (h8 l _ c (hv j l h1) h2)
 exact⟨q1,q2.mono fun e w' ⟨u,σ',β',s',he,hK,hr',hl'⟩=>⟨u,σ',β',s',he,hK,hr',hlat.trans hl'⟩⟩
def dP:Pg:=⟨[[103]],[
 ⟨[109,97,105,110],[],[[118]],[
   .mk 1 1 [] [118] [] (.mk 1 2 [] []) false [] [] [],
   .mk 2 4 [] [] [112] (.mk 0 0 [] []) false [⟨false,[],.mk 1 3 [] []⟩,⟨true,[118],.mk 0 0 [] []⟩] [] [],
   .mk 3 3 [] [] [] (.mk 2 0 [118] []) false [] [] [],
   .mk 4 3 [] [] [] (.mk 2 0 [103] []) false [] [] []],[]⟩,
 ⟨[112],[⟨[120],false⟩,⟨[121],true⟩],[],[
   .mk 5 2 [] [120] [] (.mk 0 0 [] []) false [] [] [],
   .mk 6 5 [] [] [] (.mk 12 0 [] [.mk 2 0 [121] [],.mk 1 9 [] []]) false [] [.mk 7 10 [] [101] [] (.mk 0 0 [] []) false [] [] []] [],
   .mk 8 9 [] [] [] (.mk 2 0 [103] []) true [] [] []],[[101]]⟩]⟩
end Go.Ab
