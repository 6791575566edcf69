/- give: does a procedure need a name? walked. -/
import Derived.Test.YtonbdgcjnecapaaGreatInK4
import Derived.Test.YtonbdgcjnecapaaGreatInK6
import Derived.Test.YtonbdgcjnecapaaGreatInK10
import Derived.Test.YtonbdgcjnecapaaGreatInK19
set_option linter.all false
set_option maxRecDepth 100000
set_option maxHeartbeats 16000000
open Nat (blt)
namespace Go.Ab
open Go.Proofs.Tryz
open Go.Proofs
variable {D I O U:List (List Str)}{K:St->Prop}{N k:Nat}{P:Program}{T:Tab}{a:Int}{f:Pr}{info:Info}{net:List (List Int)}{o:List Str}{p:Pg}{s:St}{seen:List Bool}{todo:List Int}
def count_set{l:List Bool}{k:Nat}(i:k<l.length)(h:l.getD k false=false):(l.set k true).count false+1=l.count false:=by
 rw[x6h,x6k i]at h;have j:l[k]=false:=h;have m:0<l.count false:=List.count_pos_iff.2 (j▸x6o i);rw[List.count_set i,j];simp;omega
theorem NedJ.shutN{i:Nat}{x:Str}{n:Nat}(r:netR p i f=net)(h:QS p=true)(m:p.A[i]?=some f)(l:NedJ p i f D U o x n a k seen todo)(q:(net.getD a.toNat []).length<=k)(j:hitN p i f U o x a=false):NedI p i f D U o x n seen todo:=by
 subst r;exact l.shut h m q j
theorem NedJ.oldN{i:Nat}{x:Str}{n:Nat}(m:netR p i f=net)(j:NedJ p i f D U o x n a k seen todo)(l:k<(net.getD a.toNat []).length)(q:seen.getD ((net.getD a.toNat [])[k]).toNat false=true):NedJ p i f D U o x n a (k+1) seen todo:=by
 subst m;exact j.old l q
theorem NedJ.newN{i:Nat}{x:Str}{n:Nat}(r:netR p i f=net)(j:NedJ p i f D U o x n a k seen todo)(q:k<(net.getD a.toNat []).length){c:Int}(m:c=(net.getD a.toNat [])[k])(t:0<=c/\c<(n:Int))(l:nR p i f D x a c):NedJ p i f D U o x n a (k+1) (seen.set c.toNat true) (todo++[c]):=by
 subst r;exact j.new q m t l
def Hl(h:K s):ZP s K:=by
 rw[UZ];exact h
def Iz{ops:Array Oper}(h:K s):run P T N ops [] s K:=h
def Ie{id:Nat}(i:info.frz id=[])(h:Hy (info.keep id) s K):Ld info id s K:=by
 unfold Ld;rw[i];show Hy (info.keep id) s fun s=>ZP s K;have e:(fun s=>ZP s K)=K:=funext fun s=>UZ s K;rw[e];exact h
def TZ{i:List Nat}(s':St)(h:∀K:St->Prop,K s'->Hy i s K)(j:K s'):Hy i s K:=h K j
def Sa{sl:List (Nat×LV)}{d:Nat}{v:LV}{K:List (Nat×LV)->Prop}(i:blt d N=true)(h:K (W1 sl d v)):setD N sl (some d) v K:=by
 show(bif blt d N then q5c sl d v K else False);rw[i,x7z,Qw];exact h
def q7b{c:Operand}{a b:Code}{K:Exit->St->Prop}(h:QR s.sl c=.p (.bool false))(i:W P T N info b K s):W P T N info (.cond c a b) K s:=by
 unfold W;rw[h];exact Br.ff i
def q7p{c:Operand}{a b:Code}{K:Exit->St->Prop}(h:QR s.sl c=.p (.bool true))(i:W P T N info a K s):W P T N info (.cond c a b) K s:=by
 unfold W;rw[h];exact Br.tt i
def Jh(b:Book)(p:Pg)(h:QS p=true)(i:Nat)(f:Pr)(H:p.A[i]?=some f)(hW:b.ways[i]?=some (QQ p i f))(o:List Str)(hO:b.N[i]?=some o)(ho:o.Pairwise ltT)(hol:o.length<=1000000000)(hDl:b.M.length=(sheetOf p).l.length)(hUl:b.P.length=(sheetOf p).l.length)(hDr:∀d∈b.M,d.Pairwise ltT/\d.length<=1000000000)(hUr:∀d∈b.P,d.Pairwise ltT/\d.length<=1000000000)(x:Str):SpecP prog 171 [.ip b.cells,.int .i64 i,Gz (netR p i f),.str x] (fun r=>r=.bool (A9 p i f b.M b.P o x)):=by
 refine sB W6 func171 rfl call171 ?_;conv=>whnf
 obtain⟨n,Z⟩ : ∃n,n=cntL f.body+2:=⟨_,rfl⟩;have hcn:=(XZ h).2.2;obtain⟨_,_,_,hsl,hsp⟩:=QY p;obtain⟨_,_,hle,_⟩:=hsp i f H;have hn200:n<=202:=by omega
 have hg1:(b.ways.map fun w=>AV.ip w.cells)[i]?=some (.ip (QQ p i f).cells):=by rw[x6a,hW];rfl
 have hg2:(b.N.map eStrs)[i]?=some (eStrs o):=by rw[x6a,hO];rfl
 have V:(QQ p i f).n=n:=by rw[Z];rfl
 have hHo:=Y7 o x ho hol;have hP:∀a:Int,0<=a/\a<=5000->SpecP prog 65 [.ip (QQ p i f).cells,.int .i64 a] (fun r=>r=.int .i64 (idN p i f a)):=fun a ha=>Zm (QQ p i f) f H (by show cntP p.A<=1000;omega) ⟨by rw[V];omega,by rw[V];omega⟩ a ha;have hNl:(netR p i f).length=n:=by rw[Z];exact Kx _ _
 have hNr:∀a:Nat,a<n->∀c∈(netR p i f).getD a [],nR p i f b.M x a c\/Z6 p i f b.M x a=false:=fun a ha c v=>by
  have hm:=(Kz fun t ht=>(PM h H t ht).1).1 v;obtain⟨t,ht,h1,h2⟩:=hm;cases hq:Z6 p i f b.M x a with
  |false=>exact .inr rfl
  |true=>exact .inl ⟨hq,by rw[<-h1,<-h2];exact ht⟩
 have hNi:∀a:Nat,a<n->∀c∈(netR p i f).getD a [],0<=c/\c<(n:Int):=fun a ha c v=>by
  obtain⟨t,ht,_,rfl⟩:=(Kz fun t ht=>(PM h H t ht).1).1 v;have:=(PM h H t ht).2;omega
 have hNc:∀a:Nat,((netR p i f).getD a []).length<=200000:=fun a=>by
  refine x8s (L1 _ _ a) ?_;unfold GC;rw[x6j];exact TY h H
 have hId:∀a:Int,0<a->a<(n:Int)-1->1<=idN p i f a/\(idN p i f a-1).toNat<(sheetOf p).l.length:=fun a h1 h2=>by
  unfold idN ZM loI;rw[if_neg (by omega),if_neg (by omega)];omega
 obtain⟨net,m⟩ : ∃net,netR p i f=net:=⟨_,rfl⟩;rw[m]at hNl hNr hNi hNc⊢;generalize QQ p i f=w at hg1 V hP hW;repeat' ((first|refine x6d rfl ?_|refine aD ?_|refine aR ?_|(refine IdxK.at (k:=i) rfl hg1 rfl ?_)|refine MkK.mk n V (by show 1*n<=140737488355328;omega) (by unfold maxLen;omega) ?_|refine z1c (fun x hx=>by rcases x6p.1 hx with rfl;rfl) rfl ?_);conv=>whnf)
 refine LoopK.inv QW (fun y:List Bool×List Int=>⟨[(0,.p (.ip b.cells)),(1,.p (.int .i64 i)),(2,.p (Gz net)),(3,.p (.str x)),(9,.p (.ip w.cells)),(10,.hd 0 0 n),(11,.hd 1 0 y.2.length)],[(1,.own 3 1 (y.2.map (.int .i64))),(0,.own 4 1 (y.1.map bv))]⟩)
  (fun y=>NedI p i f b.M b.P o x n y.1 y.2/\y.2.length+y.1.count false<=n+1) (fun y=>2*y.1.count false+y.2.length) (List.replicate n false,[0]) (Le.of_eq (by rw[x9e];rfl)) ⟨NedI.start n (by omega),by simp;omega⟩ ?_
 rintro⟨seen,todo⟩ ⟨B,hc1⟩;simp only at B hc1⊢;rcases List.eq_nil_or_concat todo with rfl|⟨st,a,rfl⟩
 .have hz:(([]:List Int).length)=0:=rfl;conv=>whnf
  repeat' (first|(refine iM fun _=>?_;conv=>whnf)|(apply bD<;>intro _<;>first|omega|conv=>whnf))
  all_goals exact RetK.ff (B.stop h H)
 rw[List.concat_eq_append]at B hc1⊢;have hstl:(st++[a]).length=st.length+1:=by simp
 have E:=B.rng a (by simp);have e3:((st++[a]).map (AV.int .i64))[st.length]?=some (.int .i64 a):=by simp
 have hsl2:=B.len;have hway:=B.way a (B.td a (by simp));have hPa:=hP a ⟨E.1,by omega⟩;have z:∀(sl:List (Nat×LV)),Le Tryz.f171.ntmps ⟨sl,[(1,.own 3 1 ((st++[a]).map (.int .i64))),(0,.own 4 1 (seen.map bv))]⟩ ⟨sl,[(1,.own 3 1 (st.map (.int .i64))),(0,.own 4 1 (seen.map bv))]⟩:=fun sl=>Le.cut (.cut ⟨[.int .i64 a],by simp⟩ (.same .nil));have hrow:((avI net).map AV.sl)[a.toNat]?=some (.sl ((net.getD a.toNat []).map (.int .i64))):=by
  have:a.toNat<net.length:=by rw[hNl];omega
  rw[x6h,x6k this];simp[avI,this]
 have hrl:((net.getD a.toNat []).map (AV.int .i64)).length=(net.getD a.toNat []).length:=x6j _;have hcs:a=(n:Int)-1\/(a=0/\¬a=(n:Int)-1)\/(0<a/\¬a=(n:Int)-1):=by omega
 rcases hcs with Y|⟨hz,Y⟩|⟨L,Y⟩
 ·-- the exit
  have j:hitN p i f b.P o x a=inS o x:=by unfold hitN;rw[<-Z,x8r Y];rfl
  have q:Z6 p i f b.M x a=false:=by unfold Z6;rw[<-Z,x8r Y];rfl
  conv=>whnf
  repeat' (first|((first|(refine iM fun _=>?_)|refine x6d rfl ?_|refine wI ?_|refine x8q st.length (by omega) (by omega) ?_|refine x8p st.length 0 (.int .i64 a) (by omega) e3 ?_|refine z2f 0 st.length rfl (by show((st++[a]).length:Int)-1=_;omega) (by omega) (by omega) ?_|(refine IdxK.at (k:=i) rfl hg2 rfl ?_)|refine cP hHo ?_);conv=>whnf)|(apply bD<;>intro _<;>first|omega|conv=>whnf)|(apply bB<;>intro _<;>conv=>whnf))
  .exact RetK.tt ((Z3 h H).2 ⟨a,hway,by rw[j];assumption⟩)
  .exact ⟨(seen,st),⟨B.skip (by rw[j];assumption) q,by simp only;omega⟩,by simp only;omega,(z _).trans (lE)⟩
 ·-- the entry
  have j:hitN p i f b.P o x a=false:=by unfold hitN;rw[<-Z,x8c Y,x8c (by omega)];rfl
  have q:Z6 p i f b.M x a=true:=by unfold Z6;rw[<-Z,x8c Y,x8c (by omega)];rfl
  conv=>whnf
  repeat' (first|((first|(refine iM fun _=>?_)|refine x6d rfl ?_|refine wI ?_|refine x8q st.length (by omega) (by omega) ?_|refine x8p st.length 0 (.int .i64 a) (by omega) e3 ?_|refine z2f 0 st.length rfl (by show((st++[a]).length:Int)-1=_;omega) (by omega) (by omega) ?_|(refine IdxK.at (k:=a.toNat) (by omega) hrow rfl ?_));conv=>whnf)|(apply bD<;>intro _<;>first|omega|conv=>whnf))
  refine LoopK.inv QW (fun y:Nat×List Bool×List Int=>⟨[(0,.p (.ip b.cells)),(1,.p (.int .i64 i)),(2,.p (Gz net)),(3,.p (.str x)),(9,.p (.ip w.cells)),(10,.hd 0 0 n),(11,.hd 1 0 y.2.2.length),(87,.p (XL (net.getD a.toNat []))),(88,.p (.int .i64 ((net.getD a.toNat []).map (AV.int .i64)).length)),(89,.p (.int .i64 y.1))],[(1,.own 3 1 (y.2.2.map (.int .i64))),(0,.own 4 1 (y.2.1.map bv))]⟩)
   (fun y=>y.1<=(net.getD a.toNat []).length/\NedJ p i f b.M b.P o x n a y.1 y.2.1 y.2.2/\y.2.2.length+y.2.1.count false<=n/\2*y.2.1.count false+y.2.2.length<=2*seen.count false+st.length) (fun y=>(net.getD a.toNat []).length-y.1) (0,seen,st)
   ((z _).trans (Le.of_eq rfl)) ⟨x6t _,B.open,by simp only;omega,x7u _⟩ ?_
  rintro⟨k,e,td⟩ ⟨h1,C,h3,h4⟩;simp only at h1 C h3 h4⊢;rcases x6c k (net.getD a.toNat []).length with u|u;rotate_left 1
  .conv=>whnf
   repeat' (apply bD<;>intro _<;>first|omega|conv=>whnf)
   all_goals exact⟨(e,td),⟨C.shutN m h H u j,by simp only;omega⟩,by simp only;omega,lE⟩
  .obtain ⟨c,v⟩ : ∃c,c=(net.getD a.toNat [])[k]:=⟨_,rfl⟩;have F:c∈net.getD a.toNat []:=by rw[v];exact x6o u
   have hcr:=hNi a.toNat (by omega) c F;have hcR:nR p i f b.M x a c:=by
    rcases hNr a.toNat (by omega) c F with Q|Q
    .rwa [z0g E.1]at Q
    .rw [z0g E.1,q]at Q;cases Q
   have hsnl:=C.len;have g:=q2x (l:=e) (i:=c.toNat) (by omega);have e5:((net.getD a.toNat []).map (AV.int .i64))[k]?=some (.int .i64 c):=by rw[x6a,x6k u,<-v];rfl
   cases R:e.getD c.toNat false with
   | true=>
     rw[R]at g;conv=>whnf
     repeat' (first|((first|refine x6d rfl ?_|(refine iA fun _=>?_)|refine wI ?_|refine x8q c.toNat (by omega) (by omega) ?_|refine x8p c.toNat 0 .tt (by omega) g ?_);conv=>whnf)|(apply bD<;>intro _<;>first|omega|conv=>whnf))
     all_goals first
       |exact⟨(k+1,e,td),⟨u,C.oldN m u (by rw[<-v];exact R),h3,h4⟩,by simp only;omega,Le.of_eq rfl⟩
   | false=>
     rw[R]at g;have hcs:=count_set (l:=e) (k:=c.toNat) (by omega) R;conv=>whnf
     repeat' (first|((first|refine x6d rfl ?_|refine aD ?_|refine bP ?_|(refine iA fun _=>?_)|refine wI ?_|refine x8q c.toNat (by omega) (by omega) ?_|refine x8p c.toNat 0 .ff (by omega) g ?_|refine z0j c.toNat 0 .ff .tt (by omega) g (x7u 1) rfl ?_|refine WZ (by simp) (by simp;omega) ?_);conv=>whnf)|(apply bD<;>intro _<;>first|omega|conv=>whnf))
     all_goals first
       |exact⟨(k+1,e.set c.toNat true,td++[c]),⟨u,C.newN m u v hcr hcR,by simp only[x6f,x7r];omega,by simp only[x6f,x7r];omega⟩,by simp only;omega,Le.of_eq (by rw[<-v];simp only[x9w,x6l,x6f];rfl)⟩
 ·-- a statement
  obtain⟨hid1,hid2⟩:=hId a L (by omega);have hgU:(b.P.map eStrs)[(idN p i f a-1).toNat]?=some (eStrs (Xd b.P (idN p i f a))):=by
   unfold Xd;rw[x6a,x6h,x6k (by omega)];rfl
  have hgD:(b.M.map eStrs)[(idN p i f a-1).toNat]?=some (eStrs (Xd b.M (idN p i f a))):=by
   unfold Xd;rw[x6a,x6h,x6k (by omega)];rfl
  have hrU:(Xd b.P (idN p i f a)).Pairwise ltT/\(Xd b.P (idN p i f a)).length<=1000000000:=by
   unfold Xd;rw[x6h,x6k (by omega)];exact hUr _ (x6o _)
  have hrD:(Xd b.M (idN p i f a)).Pairwise ltT/\(Xd b.M (idN p i f a)).length<=1000000000:=by
   unfold Xd;rw[x6h,x6k (by omega)];exact hDr _ (x6o _)
  have hHU:=Y7 _ x hrU.1 hrU.2;have hHD:=Y7 _ x hrD.1 hrD.2;have G:hitN p i f b.P o x a=inS (Xd b.P (idN p i f a)) x:=by unfold hitN;rw[<-Z,x8c Y,x8r L];rfl
  have J:Z6 p i f b.M x a = !inS (Xd b.M (idN p i f a)) x:=by unfold Z6;rw[<-Z,x8c Y,x8r L];rfl
  generalize idN p i f a=id at*
  generalize Xd b.P id=lu at*
  generalize Xd b.M id=ld at*
  conv=>whnf
  repeat' (first|((first|(refine iM fun _=>?_)|refine x6d rfl ?_|refine wI ?_|refine x8q st.length (by omega) (by omega) ?_|refine x8p st.length 0 (.int .i64 a) (by omega) e3 ?_|refine z2f 0 st.length rfl (by show((st++[a]).length:Int)-1=_;omega) (by omega) (by omega) ?_|refine cP hPa ?_|(refine IdxK.at (k:=(id-1).toNat) (by omega) hgU rfl ?_));conv=>whnf)|(apply bD<;>intro _<;>first|omega|conv=>whnf))
  refine CallK.pure hHU (.cons (Sub.refl _) (.cons (Sub.refl _) .nil)) ?_;rintro _ rfl;refine Sa (by kernel_rfl) ?_;refine Hl ?_;refine Iz ?_;refine Ie (by kernel_rfl) ?_;refine TZ ⟨[(0,.p (.ip b.cells)),(1,.p (.int .i64 i)),(2,.p (Gz net)),(3,.p (.str x)),(9,.p (.ip w.cells)),(10,.hd 0 0 n),(11,.hd 1 0 st.length),(12,.p (.int .i64 a)),(13,.p (.int .i64 id)),(73,.p (.bool (inS lu x)))],[(1,.own 3 1 ((st++[a]).map (.int .i64))),(0,.own 4 1 (seen.map bv))]⟩ (fun K h=>h) ?_;cases hqu:inS lu x;rotate_left
  .refine q7p rfl ?_;conv=>whnf
   skip
   all_goals exact RetK.tt ((Z3 h H).2 ⟨a,hway,by rw[G,hqu]⟩)
  refine q7b rfl ?_;conv=>whnf
  repeat' ((first|refine wI ?_|(refine IdxK.at (k:=(id-1).toNat) (by omega) hgD rfl ?_));conv=>whnf)
  refine CallK.pure hHD (.cons (Sub.refl _) (.cons (Sub.refl _) .nil)) ?_;rintro _ rfl;refine Sa (by kernel_rfl) ?_;refine Hl ?_;refine Iz ?_;refine Ie (by kernel_rfl) ?_;refine TZ ⟨[(0,.p (.ip b.cells)),(1,.p (.int .i64 i)),(2,.p (Gz net)),(3,.p (.str x)),(9,.p (.ip w.cells)),(10,.hd 0 0 n),(11,.hd 1 0 st.length),(12,.p (.int .i64 a)),(83,.p (.bool (inS ld x)))],[(1,.own 3 1 ((st++[a]).map (.int .i64))),(0,.own 4 1 (seen.map bv))]⟩ (fun K h=>h) ?_;have j:hitN p i f b.P o x a=false:=by rw[G,hqu]
  cases hqd:inS ld x;rotate_left
  .have q:Z6 p i f b.M x a=false:=by rw[J,hqd];rfl
   refine q7p rfl ?_;conv=>whnf
   skip
   all_goals exact⟨(seen,st),⟨B.skip j q,by simp only;omega⟩,by simp only;omega,(z _).trans (lE)⟩
  .have q:Z6 p i f b.M x a=true:=by rw[J,hqd];rfl
   refine q7b rfl ?_;conv=>whnf
   repeat' ((first|(refine iM fun _=>?_)|(refine IdxK.at (k:=a.toNat) (by omega) hrow rfl ?_));conv=>whnf)
   refine LoopK.inv QW (fun y:Nat×List Bool×List Int=>⟨[(0,.p (.ip b.cells)),(1,.p (.int .i64 i)),(2,.p (Gz net)),(3,.p (.str x)),(9,.p (.ip w.cells)),(10,.hd 0 0 n),(11,.hd 1 0 y.2.2.length),(87,.p (XL (net.getD a.toNat []))),(88,.p (.int .i64 ((net.getD a.toNat []).map (AV.int .i64)).length)),(89,.p (.int .i64 y.1))],[(1,.own 3 1 (y.2.2.map (.int .i64))),(0,.own 4 1 (y.2.1.map bv))]⟩)
    (fun y=>y.1<=(net.getD a.toNat []).length/\NedJ p i f b.M b.P o x n a y.1 y.2.1 y.2.2/\y.2.2.length+y.2.1.count false<=n/\2*y.2.1.count false+y.2.2.length<=2*seen.count false+st.length) (fun y=>(net.getD a.toNat []).length-y.1) (0,seen,st)
    ((z _).trans (Le.of_eq rfl)) ⟨x6t _,B.open,by simp only;omega,x7u _⟩ ?_
   rintro⟨k,e,td⟩ ⟨h1,C,h3,h4⟩;simp only at h1 C h3 h4⊢;rcases x6c k (net.getD a.toNat []).length with u|u;rotate_left 1
   .conv=>whnf
    repeat' (apply bD<;>intro _<;>first|omega|conv=>whnf)
    all_goals exact⟨(e,td),⟨C.shutN m h H u j,by simp only;omega⟩,by simp only;omega,lE⟩
   .obtain ⟨c,v⟩ : ∃c,c=(net.getD a.toNat [])[k]:=⟨_,rfl⟩;have F:c∈net.getD a.toNat []:=by rw[v];exact x6o u
    have hcr:=hNi a.toNat (by omega) c F;have hcR:nR p i f b.M x a c:=by
     rcases hNr a.toNat (by omega) c F with Q|Q
     .rwa [z0g E.1]at Q
     .rw [z0g E.1,q]at Q;cases Q
    have hsnl:=C.len;have g:=q2x (l:=e) (i:=c.toNat) (by omega);have e5:((net.getD a.toNat []).map (AV.int .i64))[k]?=some (.int .i64 c):=by rw[x6a,x6k u,<-v];rfl
    cases R:e.getD c.toNat false with
    | true=>
      rw[R]at g;conv=>whnf
      repeat' (first|((first|refine x6d rfl ?_|(refine iA fun _=>?_)|refine wI ?_|refine x8q c.toNat (by omega) (by omega) ?_|refine x8p c.toNat 0 .tt (by omega) g ?_);conv=>whnf)|(apply bD<;>intro _<;>first|omega|conv=>whnf))
      all_goals first
        |exact⟨(k+1,e,td),⟨u,C.oldN m u (by rw[<-v];exact R),h3,h4⟩,by simp only;omega,Le.of_eq rfl⟩
    | false=>
      rw[R]at g;have hcs:=count_set (l:=e) (k:=c.toNat) (by omega) R;conv=>whnf
      repeat' (first|((first|refine x6d rfl ?_|refine aD ?_|refine bP ?_|(refine iA fun _=>?_)|refine wI ?_|refine x8q c.toNat (by omega) (by omega) ?_|refine x8p c.toNat 0 .ff (by omega) g ?_|refine z0j c.toNat 0 .ff .tt (by omega) g (x7u 1) rfl ?_|refine WZ (by simp) (by simp;omega) ?_);conv=>whnf)|(apply bD<;>intro _<;>first|omega|conv=>whnf))
      all_goals first
        |exact⟨(k+1,e.set c.toNat true,td++[c]),⟨u,C.newN m u v hcr hcR,by simp only[x6f,x7r];omega,by simp only[x6f,x7r];omega⟩,by simp only;omega,Le.of_eq (by rw[<-v];simp only[x9w,x6l,x6f];rfl)⟩
inductive SlR(g:Nat->Option Nat)(sl:List (Nat×LV)):List (Nat×LV)->Prop
 |nil:SlR g sl []
 |cons {i:Nat} {l:LV} {r:List (Nat×LV)} (h:LSub ((getS sl i).ren g) l) (hr:SlR g sl r):SlR g sl ((i,l)::r)
theorem SlR.r{g:Nat->Option Nat}{sl:List (Nat×LV)}{i:Nat}{r:List (Nat×LV)}(h:SlR g sl r):SlR g sl ((i,(getS sl i).ren g)::r):=.cons (.refl _) h
theorem SlR.get{g:Nat->Option Nat}{sl sl':List (Nat×LV)}(h:SlR g sl sl')(i:Nat):LSub ((getS sl i).ren g) (getS sl' i)\/getS sl' i=.p .any:=by
 induction h with
 |nil=>exact .inr rfl
 | @cons j l r h t q=>
   simp only[getS];by_cases m:j=i
   .subst m;exact .inl (by simpa using h)
   .have:(j==i)=false:=by simp[m]
    simpa[this]using q
def q3m{s':St}(π:Nat->Nat)(x:∀k,π (π k)=k)(v:∀j,1000<=j->j<2000->π j=j)(B:SlR (fun k=>some (π k)) s.sl s'.sl)(C:∀j c,(j,c)∈s'.H->∃r,(π j,r)∈s.H/\CSub (r.ren fun k=>some (π k)) c)(A:(s'.H.map (·.1)).Nodup):Le N s s':=fun σ β a w q=>by
 have E:∀k j,(fun k=>some (π k)) k=some j->(fun j=>β (π j)) j=β k:=fun k j J=>by
  cases J;show β (π (π k))=β k;rw[x]
 have l:∀j∈s'.H.map (·.1),π j∈s.H.map (·.1):=fun j m=>by
  obtain⟨⟨y,c⟩,L,rfl⟩:=x6r.1 m;obtain⟨r,n,_⟩:=C y c L;exact x6r.2 ⟨_,n,rfl⟩
 refine⟨σ,fun j=>β (π j),⟨q.size,q.defers,fun i=>?_,q.heap.mem,fun j c m=>?_,A,fun j m i u b t=>q.heap.apart (π j) (l j m) i u b t,fun j m y g i i' u e b t d=>?_⟩,Mem.le_refl σ,Frm.refl _ _,fun b z n=>absurd z n,fun b ⟨j,m,i,u,t⟩=>.inl ⟨π j,l j m,i,u,t⟩,fun k z n=>?_⟩
 .rcases B.get i with h|h
  .exact h.rep ((q.G i).ren E)
  .rw [h];exact .p (.any _)
 .obtain ⟨r,n,F⟩:=C j c m;exact F _ _ _ _ ((q.heap.chunks (π j) r n).ren (j:=j) E (by show some (π (π j))=some j;rw[x]))
 .have:=q.heap.inj (π j) (l j m) (π y) (l y g) i i' u e b t d;rw[<-x j,this,x]
 .show β (π k)=β k;rw[v k z n]
def KX(l:List Str)(n:l.length<=1000000000):SpecH prog 94 [.hd 1000 0 l.length] [(1000,.own 9 1 (l.map .str))] (fun r H=>r=.p (eStrs (WN l))/\H=[]):=by
 have h:=RF l n;refine⟨h.go,fun σ β w x b c d=>(h.ok σ β w x b c d).mono fun B w' A=>?_⟩;obtain⟨r,u,σ',β',H',g,⟨rfl,rfl⟩,v,t,j⟩:=A;generalize WN l=m at*
 obtain⟨s',rfl,z⟩:=Le.row (N:=1) (s:=⟨[(0,.hd 1000 0 m.length)],[(1000,.own 9 1 (m.map .str))]⟩) (k:=1000) (e:=9) (sz:=1) (es:=m.map .str) (zs:=[0]) rfl (K:=fun s=>s=⟨[(0,.p (eStrs m))],[]⟩)
  ⟨(x6j _).symm,rfl⟩
 obtain⟨σ2,β2,q,y⟩:=z σ' β' {tmps:=#[u],defers:=[]} w' ⟨rfl,rfl,fun i=>by
  match i with
  |0=>simpa[getS]using v
  |i+1=>exact .p (by simpa[getS]using Rep.any _),t⟩
 exact⟨.p (eStrs m),u,σ2,β2,[],g,⟨rfl,rfl⟩,by simpa[getS]using q.G 0,q.heap,j.trans y⟩
def RO(p:Pg)(h i j:LV)(n:Nat):Chunk:=.obj 93 [.p (.ip (sheetOf p).cells),h,i,j,.hd 0 0 n,.hd 1 0 n]
def JZ(L:List (List Str)):Chunk:=.own 22 1 (L.map eStrs)
def Fb(p:Pg)(k:Nat):Chunk:=.own 122 1 (((wysB p).take k).map fun w=>.ip w.cells)
def E0(n:Nat):ElS (List.replicate n (AV.ofV (.slice none 0 0))) ((List.replicate n ([]:List Str)).map eStrs):=by
 refine⟨by simp,fun m x h=>?_⟩;rw[x9e,x7c]at h;rw[x7c];split at h
 .cases h;rw[if_pos (by assumption)];refine⟨_,rfl,rfl,fun j c i=>?_⟩
  match j,i with
  |0,i=>cases i;exact⟨_,rfl,Sub.nils⟩
 .cases h
def q8o{a:AV}{n:Nat}:
  Le N ⟨[(1,.p a),(3,.ptr 2 0)],[(2,.obj 93 [.p (.ip (sheetOf p).cells),.p (AV.ofS (.slice none 0 0)),.p (AV.ofS (.slice none 0 0)),.p (AV.ofS (.slice none 0 0)),.hd 0 0 n,.hd 1 0 n]),(1,.own 22 1 (List.replicate n (AV.ofV (.slice none 0 0)))),(0,.own 22 1 (List.replicate n (AV.ofV (.slice none 0 0))))]⟩
   ⟨[(1,.p a),(3,.ptr 2 0)],[(3,Fb p 0),(2,RO p (.hd 3 0 0) (.p .nils) (.p .nils) n),(1,JZ (List.replicate n [])),(0,JZ (List.replicate n []))]⟩:=by
 refine Le.trans (Le.L (.same (.L (E0 n) (.L (E0 n) .nil)))) ?_;exact Le.mk [(3,Fb p 0)] (by simp[Chunk.new0,Fb];rfl) (by simp) (by simp) (.r (.r .nil)) (.new x6g (.cons rfl (.obj (.r (.cons (.nil x6g) (.r (.r (.r (.r .nil))))))) (.cons rfl (.refl _) (.cons rfl (.refl _) .nil))))
def x2g(k:Nat):Nat:=if k=0 then 1 else if k=1 then 0 else k
def x2v{a:AV}{n:Nat}:
  Le N ⟨[(1,.p a),(3,.ptr 2 0)],[(2,.obj 93 [.p (.ip (sheetOf p).cells),.p (AV.ofS (.slice none 0 0)),.p (AV.ofS (.slice none 0 0)),.p (AV.ofS (.slice none 0 0)),.hd 1 0 n,.hd 0 0 n]),(1,.own 22 1 (List.replicate n (AV.ofV (.slice none 0 0)))),(0,.own 22 1 (List.replicate n (AV.ofV (.slice none 0 0))))]⟩
   ⟨[(1,.p a),(3,.ptr 2 0)],[(3,Fb p 0),(2,RO p (.hd 3 0 0) (.p .nils) (.p .nils) n),(1,JZ (List.replicate n [])),(0,JZ (List.replicate n []))]⟩:=by
 refine Le.trans ?_ q8o;refine q3m x2g (fun k=>by unfold x2g;split<;>(try split)<;>simp_all) (fun j l m=>by unfold x2g;rw[if_neg (by omega),if_neg (by omega)]) (.r (.r .nil)) (fun j c h=>?_) (by simp);rcases x6m.1 h with i|h
 .cases i;exact⟨_,x6g,CSub.refl _⟩
 rcases x6m.1 h with i|h
 .cases i;exact⟨_,x6b _ (x6b _ x6g),CSub.refl _⟩
 rcases x6m.1 h with i|h
 .cases i;exact⟨_,x6b _ x6g,CSub.refl _⟩
 .cases h
def IG{W:List (List Str)}(h:k<W.length)(i:W.length=O.length):((W.take k++O.drop k).map eStrs).set k (eStrs W[k])=(W.take (k+1)++O.drop (k+1)).map eStrs:=by
 rw[<-x9w,List.set_append_right _ _ (by rw[x7m];omega),x7m,show k-min k W.length=0 by omega,x7t (by omega),List.set_cons_zero,x7x h,x7n];rfl
def q3y{W:List (List Str)}(h:k<O.length)(i:W.length=O.length):((W.take k++O.drop k).map eStrs)[k]?=some (eStrs O[k]):=by
 rw[x6a,x7d (by rw[x7m];omega),x7m,show k-min k W.length=0 by omega,x8t,z0r,x6k h];rfl
def IK{W:List (List Str)}(h:k<=O.length)(i:W.length=O.length):((W.take k++O.drop k).map eStrs).length=O.length:=by
 rw[x6j,x6f,x7m,x9x];omega
def q3j{W:List (List Str)}(l:k<W.length)(i:k<O.length):decide (W.take (k+1)=O.take (k+1))=(decide (W.take k=O.take k)&&decide (W[k]=O[k])):=by
 rw[x7x l,x7x i,<-Bool.decide_and];refine decide_eq_decide.2 ⟨fun h=>?_,fun h=>by rw[h.1,h.2]⟩;have j:=z1h h rfl;exact⟨j.1,by simpa using j.2⟩
def SH(i:QS p=true)(h:OkI p I){t:S}(n:t∈VJ p):(Vh (bkI p I) t).length<=1000000000:=by
 have q:=SG t;unfold Vh;split
 .rename_i l;have j:=(Xj i n l).2;have r:=FC IH t.args;have u:t.args.length*1048577<=8*1048577:=x8g _ j;have m:=h.len25 i (caI (bkI p I).s.p t).toNat;have v:(inAt (bkI p I) t).length<=25:=m;simp only[x6f];omega
 .omega
def OC{g:FuncId}{args:List LV}{i:Option Nat}{avs:List AV}{L:List Str}{nil:Prop}(k:Nat)(r:WW k s=true)(n:SpecH P g (avs.map .p) [] (OneRow (Gy L) nil))(l:FrzL s.H args avs)(m:nil->setD N s.sl i (.p .nils) fun sl=>K ⟨sl,s.H⟩)(h:setD N s.sl i (.hd k 0 L.length) fun sl=>K ⟨sl,(k,.own 9 1 (L.map .str))::s.H⟩):CallK P N g args i s K:=
 JA k r n l m fun q e sz es j=>by
  obtain⟨rfl,rfl,rfl⟩:=j;rw[x6j];exact h
def q8d{H:Heap}{m q r:LV}{n:Nat}(z:getH H 2=some (RO p m q r n))(t:Frz H m (.sl ((wysB p).map fun w=>.ip w.cells)))(u:Frz H q (.sl (D.map eStrs)))(v:Frz H r (.sl (U.map eStrs)))(x:Frz H (.hd 0 0 n) (.sl (I.map eStrs)))(y:Frz H (.hd 1 0 n) (.sl (O.map eStrs))):Frz H (.ptr 2 0) (.ip (Book.cells ⟨sheetOf p,wysB p,D,U,I,O⟩)):=
 Frz.ptr (off:=0) (cs:=Book.cells ⟨sheetOf p,wysB p,D,U,I,O⟩) z rfl fun j l c h i=>by
  match j,h,i with
  |0,h,i=>cases h;cases i;exact .p (Sub.refl _)
  |1,h,i=>cases h;cases i;exact t
  |2,h,i=>cases h;cases i;exact u
  |3,h,i=>cases h;cases i;exact v
  |4,h,i=>cases h;cases i;exact x
  |5,h,i=>cases h;cases i;exact y
  |j+6,h,_=>cases h
def Zx:Fb p p.A.length=.own 122 1 ((wysB p).map fun w=>.ip w.cells):=by
 unfold Fb;rw[x7w (by unfold wysB;rw[x6j,x9c];exact x7u _)]
def Zl:p.A.length=((wysB p).map fun w=>AV.ip w.cells).length:=by
 unfold wysB;rw[x6j,x6j,x9c]
def Lz{L:List (List Str)}(h:k<L.length)(i:L[k]=o):JZ (L.take (k+1))=.own 22 1 ((L.take k).map eStrs++[eStrs o]):=by
 unfold JZ;rw[x7x h,x6l,i];rfl
def Q9:Code->List Code
 |.seq a b=>Q9 a++Q9 b
 |.cond _ a b=>Q9 a++Q9 b
 |.block _ b=>Q9 b
 |.loop b=>b::Q9 b
 |_=>[]
noncomputable def x4o(k:Nat):Code:=(Q9 (Tryz.f50.body.getD .skip)).getD k .skip
def q5g(J:QS p=true){R:List (List Str)}(H:OkO p O)(M:D.length=(sheetOf p).l.length)(e:U.length=(sheetOf p).l.length)(hd:∀d∈D,d.Pairwise ltT/\d.length<=1000000000)(hu:∀d∈U,d.Pairwise ltT/\d.length<=1000000000)(hIn:I.length=p.A.length)(hRn:R.length=p.A.length)(hR:∀(k:Nat)(h:k<p.A.length)(h':k<R.length),R[k]=WN (TA p k p.A[k] D U (O.getD k []))){K:Exit->St->Prop}(hK:∀(m:Bool)(s:St),m=(!decide (R=I))->Le Tryz.f50.ntmps s ⟨[(1,.p (.ip p.cells)),(3,.ptr 2 0),(10,.p (.bool m))],[(5,JZ U),(4,JZ D),(3,Fb p p.A.length),(2,RO p (.hd 3 0 p.A.length) (.hd 4 0 D.length) (.hd 5 0 U.length) p.A.length),(1,JZ O),(0,JZ R)]⟩->K (.exit 12) s):
  LoopK prog tab Tryz.f50.ntmps H5 (x4o 6) K ⟨[(1,.p (.ip p.cells)),(3,.ptr 2 0),(10,.p .ff),(147,.p (.int .i64 (p.A.map fun f=>AV.agg f.cells).length)),(148,.p (.int .i64 0))],[(5,JZ U),(4,JZ D),(3,Fb p p.A.length),(2,RO p (.hd 3 0 p.A.length) (.hd 4 0 D.length) (.hd 5 0 (sheetOf p).l.length) p.A.length),(1,JZ O),(0,JZ I)]⟩:=by
 obtain⟨hg,hpl,hcn⟩:=XZ J;have hpm:(p.A.map fun f=>AV.agg f.cells).length=p.A.length:=x6j _;have z:R.length=I.length:=by omega
 have hOn:=H.len;have Z:p.A.length=(O.map eStrs).length:=by rw[x6j,H.len]
 have Q:D.length=(D.map eStrs).length:=by rw[x6j]
 refine LoopK.inv QW (fun x:Nat×Bool=>⟨[(1,.p (.ip p.cells)),(3,.ptr 2 0),(10,.p (.bool x.2)),(147,.p (.int .i64 (p.A.map fun f=>AV.agg f.cells).length)),(148,.p (.int .i64 x.1))],[(5,JZ U),(4,JZ D),(3,Fb p p.A.length),(2,RO p (.hd 3 0 p.A.length) (.hd 4 0 D.length) (.hd 5 0 (sheetOf p).l.length) p.A.length),(1,JZ O),(0,JZ (R.take x.1++I.drop x.1))]⟩)
  (fun x=>x.1<=p.A.length/\x.2 = !decide (R.take x.1=I.take x.1)) (fun x=>p.A.length-x.1) (0,false)
  (Le.mk [] (by simp) (by simp) (by simp) (.r (.r (.cons (.p (Sub.ff rfl)) (.r (.r .nil))))) (.cons rfl (.refl _) (.cons rfl (.refl _) (.cons rfl (.refl _) (.cons rfl (.refl _) (.cons rfl (.refl _) (.cons rfl (.refl _) .nil))))))) ⟨x6t _,rfl⟩ ?_
 rintro⟨k,m⟩ ⟨hk1,t⟩;simp only at hk1 t⊢;rcases x6c k p.A.length with n|n;rotate_left 1
 .obtain rfl:k=p.A.length:=by omega
  rw[x7w (by omega),x7w (by omega)]at t;rw[x7w (by omega),x7v (by omega),x8x];conv=>whnf
  repeat' (apply bD<;>intro _<;>first|omega|conv=>whnf)
  exact hK m _ t (Le.mk [] (by simp) (by simp) (by simp) (.r (.r (.r .nil))) (.cons rfl (.refl _) (.cons rfl (.refl _) (.cons rfl (.refl _) (.cons rfl (.of_eq (by rw[e])) (.cons rfl (.refl _) (.cons rfl (.refl _) .nil)))))))
 .have b:p.A[k]?=some p.A[k]:=by simp
  have hpk:=WP b;obtain⟨o,L⟩ : ∃o,O.getD k []=o:=⟨_,rfl⟩;have Y:O[k]?=some o:=by rw[<-L,x6h,x6k (by omega)];rfl
  have u:o.Pairwise ltT:=by rw[<-L];exact Xs H.rise k
  have hol25:o.length<=25:=by rw[<-L];exact H.len25 J k
  have G:(wysB p)[k]?=some (QQ p k p.A[k]):=by rw[Tn n,hpk]
  have hN:=fun x=>Jh ⟨sheetOf p,wysB p,D,U,(R).take k++I.drop k,O⟩ p J k p.A[k] b G o Y u (by omega) M e hd hu x;have C:=B5 ⟨sheetOf p,wysB p,D,U,(R).take k++I.drop k,O⟩ p rfl J k p.A[k] b G o hN;have v:(R)[k]'(by omega)=WN (TA p k p.A[k] D U o):=by
   rw[hR k n (by omega),L]
  have hol:(TA p k p.A[k] D U o).length<=1000000000:=by
   have h1:(TA p k p.A[k] D U o).length<=(p.B++[WO]).length:=z0z _ _;rw[x6f,x7r]at h1;omega
  have E:SpecH prog 99 ([AV.ip (Book.cells ⟨sheetOf p,wysB p,D,U,(R).take k++I.drop k,O⟩),.int .i64 k].map .p) [] (OneRow (Gy (TA p k p.A[k] D U o)) False):=C;have q:=IG (W:=R) (O:=I) (k:=k) (by omega) z;have g:=q3y (W:=R) (O:=I) (k:=k) (by omega) z;have hln:=IK (W:=R) (O:=I) (k:=k) (by omega) z;have i:=q3j (W:=R) (O:=I) (k:=k) (by omega) (by omega);have y:=WT ((R)[k]'(by omega)) (I[k]'(by omega));rw[v]at y q i;have V:(sheetOf p).l.length=(U.map eStrs).length:=by rw[x6j];omega
  have c:p.A.length=(((R).take k++I.drop k).map eStrs).length:=by rw[hln];omega
  clear C v hN;generalize TA p k p.A[k] D U o=ol at*
  generalize hdq:decide (WN ol=I[k])=dq at y i;have hdk:decide ((R).take k=I.take k) = !m:=by rw[t,Bool.not_not]
  rw[hdk]at i;cases m<;>cases dq;all_goals
   conv=>whnf
   repeat' (first|((first|refine x6d rfl ?_|refine wI ?_|refine x8q k rfl (by omega) ?_|refine x8p k 0 (eStrs I[k]) (by omega) g ?_|refine cP y ?_|refine z0j k 0 (eStrs I[k]) (eStrs (WN ol)) (by omega) g (x7u 1) rfl ?_);conv=>whnf)|(apply bD<;>intro _<;>first|omega|conv=>whnf)|(apply bB<;>intro _<;>conv=>whnf)|(refine OC 6 rfl E (.cons (q8d rfl (.hd (x8m some Zx) Zl) (.hd rfl Q) (.hd rfl V) (.hd rfl c) (.hd rfl Z)) (.cons (.p (Sub.refl _)) .nil)) (fun F=>F.elim) ?_;conv=>whnf)|(refine CallK.heap [(1000,6)] 0 (x6i (x6e _) x7h) (by refine x6y (j:=6) rfl rfl ?_ ?_;exact CSub.refl _;exact x7f) (KX ol hol) rfl rfl ?_;rintro l' H' ⟨rfl,rfl⟩;conv=>whnf))
  all_goals first
   |exact absurd (show false=true by assumption) (by decide)
   |exact absurd (show true=false by assumption) (by decide)
   |exact⟨(k+1,true),⟨n,by simp only;rw[i];rfl⟩,by simp only;omega,Le.mk [] (by simp) (by simp) (by simp) (.r (.r (.cons (.p (Sub.tt rfl)) (.r (.r .nil))))) (.cons rfl (.refl _) (.cons rfl (.refl _) (.cons rfl (.refl _) (.cons rfl (.refl _) (.cons rfl (.refl _) (.cons rfl (.of_eq (x8m (Chunk.own 22 1) q)) .nil))))))⟩
   |exact⟨(k+1,true),⟨n,by simp only;rw[i];rfl⟩,by simp only;omega,Le.mk [] (by simp) (by simp) (by simp) (.r (.r (.r (.r (.r .nil))))) (.cons rfl (.refl _) (.cons rfl (.refl _) (.cons rfl (.refl _) (.cons rfl (.refl _) (.cons rfl (.refl _) (.cons rfl (.of_eq (x8m (Chunk.own 22 1) q)) .nil))))))⟩
   |exact⟨(k+1,false),⟨n,by simp only;rw[i];rfl⟩,by simp only;omega,Le.mk [] (by simp) (by simp) (by simp) (.r (.r (.r (.r (.r .nil))))) (.cons rfl (.refl _) (.cons rfl (.refl _) (.cons rfl (.refl _) (.cons rfl (.refl _) (.cons rfl (.refl _) (.cons rfl (.of_eq (x8m (Chunk.own 22 1) q)) .nil))))))⟩
   |exact⟨(k+1,false),⟨n,by simp only;rw[i];rfl⟩,by simp only;omega,Le.mk [] (by simp) (by simp) (by simp) (.r (.r (.cons (.p (Sub.ff rfl)) (.r (.r .nil))))) (.cons rfl (.refl _) (.cons rfl (.refl _) (.cons rfl (.refl _) (.cons rfl (.refl _) (.cons rfl (.refl _) (.cons rfl (.of_eq (x8m (Chunk.own 22 1) q)) .nil))))))⟩
def q9q(h:k<p.A.length)(i:k<(niB p D U O).length):(niB p D U O)[k]=WN (TA p k p.A[k] D U (O.getD k [])):=by
 have j:k<((List.range p.A.length).map (niA p D U O)).length:=i;show((List.range p.A.length).map (niA p D U O))[k]'j=_;rw[z0y,List.getElem_range];unfold niA;rw[WP (x6k h)]
def q9d:∀(k:Nat)(h:k<p.A.length)(i:k<(rdI p D O I).length),(rdI p D O I)[k]=WN (TA p k p.A[k] D (usB p I) (O.getD k [])):=fun _ h i=>q9q h i
def Y8(p:Pg)(hf:Fit p):SpecP prog 50 [.agg p.cells] (fun r=>(QS p=true->r=.ip (bookOf p).cells)/\(QS p=false->r=.nilp)):=by
 refine sB H5 func50 rfl call50 ?_;conv=>whnf
 have hM:=J8 p hf;cases b:QS p with
 | false=>
   rw[b]at hM;repeat' (first|(refine cP hM ?_;conv=>whnf)|(apply bN<;>intro _<;>conv=>whnf))
   all_goals first
    |contradiction
    |exact⟨_,.p (Sub.refl _),fun h=>(by cases h),fun _=>rfl⟩
 | true =>
   rw[b]at hM;obtain⟨hg,hpl,hcn⟩:=XZ b;have hpm:(p.A.map fun f=>AV.agg f.cells).length=p.A.length:=x6j _;have hFl:=FE p (by omega) (by omega);repeat' (first|(refine cP hM ?_;conv=>whnf)|(apply bN<;>intro _<;>conv=>whnf))
   all_goals try contradiction
   refine W3 ⟨[(1,.p (.ip p.cells)),(3,.ptr 2 0)],[(3,Fb p 0),(2,RO p (.hd 3 0 0) (.p .nils) (.p .nils) p.A.length),(1,JZ (List.replicate p.A.length [])),(0,JZ (List.replicate p.A.length []))]⟩ ?_ ?_
   .refine DrawK.of QW mixed (.cons 0 false (.cons 2 false (.cons 3 false (.cons 4 false (.cons 6 false (.cons 7 false (.cons 8 false (.fork3 1 (.fork 5 (.cons 9 true (.cons 10 true (.cons 11 true (.cons 12 true .nil)))) 9 (.cons 5 true (.cons 10 true (.cons 11 true (.cons 12 true .nil))))) 5 (.fork 1 (.cons 9 true (.cons 10 true (.cons 11 true (.cons 12 true .nil)))) 9 (.cons 1 true (.cons 10 true (.cons 11 true (.cons 12 true .nil))))) 9 (.fork 1 (.cons 5 true (.cons 10 true (.cons 11 true (.cons 12 true .nil)))) 5 (.cons 1 true (.cons 10 true (.cons 11 true (.cons 12 true .nil))))))))))))) (by kernel_rfl) ?_;conv=>whnf
    repeat' (first|((first|(refine iM fun _=>?_)|refine x6d rfl ?_|refine aR ?_|refine cP hFl ?_|refine MkK.mk p.A.length (by rw[hpm]) (by show 24*_<=140737488355328;omega) (by unfold maxLen;omega) ?_);conv=>whnf)|(refine x6d ?_ ?_<;>conv=>whnf))
    all_goals first
     |exact q8o
     |exact x2v
   conv=>whnf
   repeat' (refine iM fun _=>?_;conv=>whnf)
   have Z:(wysB p).length=p.A.length:=by unfold wysB;rw[x6j,x9c]
   refine LoopK.inv QW (fun k:Nat=>⟨[(1,.p (.ip p.cells)),(3,.ptr 2 0),(32,.p (.int .i64 (p.A.map fun f=>AV.agg f.cells).length)),(33,.p (.int .i64 k))],[(3,Fb p k),(2,RO p (.hd 3 0 k) (.p .nils) (.p .nils) p.A.length),(1,JZ (List.replicate p.A.length [])),(0,JZ (List.replicate p.A.length []))]⟩) (fun k=>k<=p.A.length) (fun k=>p.A.length-k) 0 (Le.of_eq rfl) (x6t _) ?_;intro k hk;rcases x6c k p.A.length with n|n
   .have E:p.A[k]?=some p.A[k]:=by simp
    obtain⟨w1,w2,w3⟩:=BI b E;have hWn:=q6a p k p.A[k] E (by omega) w1 w3;have hwl:(((wysB p).take k).map fun w=>AV.ip w.cells).length=k:=by rw[x6j,x7m,Z];omega
    have F:Fb p (k+1)=.own 122 1 ((((wysB p).take k).map fun w=>AV.ip w.cells)++[.ip (QQ p k p.A[k]).cells]):=by
     unfold Fb;rw[x7x (by rw[Z];exact n),x6l];have e:(wysB p)[k]'(by rw[Z];exact n)=QQ p k p.A[k]:=by
      have v:=Tn n;rw[x6k (by rw[Z];exact n),WP E]at v;exact x8l v
     rw[e];rfl
    conv=>whnf
    repeat' (first|((first|refine dA ?_|refine x6d rfl ?_|refine aD ?_|refine bP ?_|refine wI ?_|refine cP hWn ?_|refine x8e hwl.symm rfl (by show(k+1)*8<=140737488355328;omega) (by show k+1<=9223372036854775807;omega) (fun x hx=>by rcases x6p.1 hx with rfl;exact⟨rfl,rfl⟩) ?_);conv=>whnf)|(apply bD<;>intro _<;>first|omega|conv=>whnf)|(refine x6d ?_ ?_<;>conv=>whnf))
    all_goals first
     |exact⟨k+1,n,by omega,Le.of_eq (by rw[F];rfl)⟩
   .obtain rfl:k=p.A.length:=by omega
    conv=>whnf
    repeat' (apply bD<;>intro _<;>first|omega|conv=>whnf)
    refine LoopK.inv QW (fun x:Bool×List (List Str)×List (List Str)=>⟨[(1,.p (.ip p.cells)),(3,.ptr 2 0),(5,.p (.bool x.1))],[(4,JZ x.2.1),(3,Fb p p.A.length),(2,RO p (.hd 3 0 p.A.length) (.hd 4 0 x.2.1.length) (.p .nils) p.A.length),(1,JZ x.2.2),(0,JZ (List.replicate p.A.length []))]⟩)
     (fun x=>(∃r,x.2.2=itO p r)/\(x.1=false->rdO p x.2.2=x.2.2/\x.2.1=dfB p x.2.2)) (fun x=>2*(400-tot x.2.2)+x.1.toNat) (true,[],List.replicate p.A.length [])
     (Le.mk [(4,JZ [])] (by simp[Chunk.new0,JZ];rfl) (by simp) (by simp) (.r (.r (.cons (.p (Sub.tt rfl)) .nil))) (.new x6g (.cons rfl (.refl _) (.cons rfl (.obj (.r (.r (.cons (.nil x6g) (.r (.r (.r .nil))))))) (.cons rfl (.refl _) (.cons rfl (.refl _) .nil)))))) ⟨⟨0,rfl⟩,fun h=>by cases h⟩ ?_
    rintro⟨m,D,O⟩ ⟨⟨r,hr⟩,hm⟩;simp only at hr hm⊢;have J:=Jl p r;rw[<-hr]at J;cases m with
    | false =>
      obtain⟨Y,hf2⟩:=hm rfl;conv=>whnf
      repeat' (refine Br.ff ?_;conv=>whnf)
      subst hf2;have hfixO:=Y;clear hm Y;have G:=Ro p O;have Q:∀d∈dfB p O,d.Pairwise ltT/\d.length<=1000000000:=fun d Q=>by
       obtain⟨it,hi,rfl⟩:=x6r.1 Q;have v:=Kf (PQ (bkO p O) it.s);have V:=Do b J (t:=it.s) (by rw[<-DK];exact x6r.2 ⟨_,hi,rfl⟩);exact⟨JO _,by omega⟩
      have hOn:=J.len;obtain⟨D,hD⟩ : ∃D,dfB p O=D:=⟨_,rfl⟩;rw[hD]at G Q⊢;have hBk:∀I,(∃r,I=itI p D O r)->rdI p D O I=I->bookOf p=⟨sheetOf p,wysB p,D,usB p I,I,O⟩:=fun I v V=>by
       have hB:BookR p ⟨sheetOf p,wysB p,D,usB p I,I,O⟩:=⟨rfl,rfl,⟨r,hr⟩,hfixO,hD.symm,v,V,rfl⟩;exact hB.eq.symm
      refine LoopK.inv QW (fun x:Bool×List (List Str)×List (List Str)=>⟨[(1,.p (.ip p.cells)),(3,.ptr 2 0),(10,.p (.bool x.1))],[(5,JZ x.2.1),(4,JZ D),(3,Fb p p.A.length),(2,RO p (.hd 3 0 p.A.length) (.hd 4 0 D.length) (.hd 5 0 x.2.1.length) p.A.length),(1,JZ O),(0,JZ x.2.2)]⟩)
       (fun x=>(∃r,x.2.2=itI p D O r)/\(x.1=false->rdI p D O x.2.2=x.2.2/\x.2.1=usB p x.2.2)) (fun x=>2*(400-tot x.2.2)+x.1.toNat) (true,[],List.replicate p.A.length [])
       (Le.mk [(5,JZ [])] (by simp[Chunk.new0,JZ];rfl) (by simp) (by simp) (.r (.r (.cons (.p (Sub.tt rfl)) .nil))) (.new x6g (.cons rfl (.refl _) (.cons rfl (.refl _) (.cons rfl (.obj (.r (.r (.r (.cons (.nil x6g) (.r (.r .nil))))))) (.cons rfl (.refl _) (.cons rfl (.refl _) .nil))))))) ⟨⟨0,rfl⟩,fun h=>by cases h⟩ ?_
      rintro⟨m,U,I⟩ ⟨⟨q,hq⟩,hm⟩;simp only at hq hm⊢;have hI:=Jm p D O q;rw[<-hq]at hI;have H:p.A.length=(O.map eStrs).length:=by rw[x6j,J.len]
      have hKD:D.length=(D.map eStrs).length:=by rw[x6j]
      cases m with
      | false=>
        obtain⟨Y,rfl⟩:=hm rfl;have hbk:=hBk I ⟨q,hq⟩ Y;have c:p.A.length=(I.map eStrs).length:=by rw[x6j,hI.len]
        have hKU:(usB p I).length=((usB p I).map eStrs).length:=by rw[x6j]
        conv=>whnf
        repeat' (refine Br.ff ?_;conv=>whnf)
        all_goals first
         |exact⟨_,q8d rfl (.hd (x8m some Zx) Zl) (.hd rfl hKD) (.hd rfl hKU) (.hd rfl c) (.hd rfl H),fun _=>by rw[hbk],fun h=>by cases h⟩
      | true=>
        have hLl:((sheetOf p).l.map fun i=>AV.agg i.cells).length=(sheetOf p).l.length:=x6j _;obtain⟨_,_,_,hsl,_⟩:=QY p;have hUl:(usB p I).length=(sheetOf p).l.length:=x6j _;have c:p.A.length=(I.map eStrs).length:=by rw[x6j,hI.len]
        conv=>whnf
        repeat' ((first|(refine iM fun _=>?_)|refine x6d rfl ?_|refine Br.tt ?_);conv=>whnf)
        refine LoopK.inv QW (fun k:Nat=>⟨[(1,.p (.ip p.cells)),(3,.ptr 2 0),(10,.p .ff),(124,.p (UH (sheetOf p).l)),(125,.p (.int .i64 ((sheetOf p).l.map fun i=>AV.agg i.cells).length)),(126,.p (.int .i64 k))],[(5,JZ ((usB p I).take k)),(4,JZ D),(3,Fb p p.A.length),(2,RO p (.hd 3 0 p.A.length) (.hd 4 0 D.length) (.hd 5 0 k) p.A.length),(1,JZ O),(0,JZ I)]⟩) (fun k=>k<=(sheetOf p).l.length) (fun k=>(sheetOf p).l.length-k) 0
         (Le.trans (s':=⟨[(1,.p (.ip p.cells)),(3,.ptr 2 0),(10,.p .ff),(124,.p (UH (sheetOf p).l)),(125,.p (.int .i64 ((sheetOf p).l.map fun i=>AV.agg i.cells).length)),(126,.p (.int .i64 (0:Nat)))],[(4,JZ D),(3,Fb p p.A.length),(2,RO p (.hd 3 0 p.A.length) (.hd 4 0 D.length) (.p .nils) p.A.length),(1,JZ O),(0,JZ I)]⟩) (lE) (Le.mk [(5,JZ [])] (by simp[Chunk.new0,JZ];rfl) (by simp) (by simp) (.r (.r (.r (.r (.r (.r .nil)))))) (.new x6g (.cons rfl (.refl _) (.cons rfl (.refl _) (.cons rfl (.obj (.r (.r (.r (.cons (.nil x6g) (.r (.r .nil))))))) (.cons rfl (.refl _) (.cons rfl (.refl _) .nil)))))))) (x6t _) ?_
        intro k hk;rcases x6c k (sheetOf p).l.length with n|n;rotate_left 1
        .obtain rfl:k=(sheetOf p).l.length:=by omega
         have M:(rdI p D O I).length=I.length:=by rw[hI.len];unfold rdI niB;rw[x6j,x9c]
         have hIn:=hI.len;rw[show(usB p I).take (sheetOf p).l.length=usB p I from x7w (by omega)];have hu:∀d∈usB p I,d.Pairwise ltT/\d.length<=1000000000:=fun d Q=>by
          obtain⟨it,hi,rfl⟩:=x6r.1 Q;have v:=Kf (Vh (bkI p I) it.s);have V:=SH b hI (t:=it.s) (by rw[<-DK];exact x6r.2 ⟨_,hi,rfl⟩);exact⟨JO _,by omega⟩
         conv=>whnf
         repeat' (first|(refine iM fun _=>?_;conv=>whnf)|(apply bD<;>intro _<;>first|omega|conv=>whnf))
         have hW:rdI p D O I=itI p D O (q+1):=by rw[hq];rfl
         refine q5g b J G hUl Q hu hIn (M.trans hIn) q9d fun m s u hle=>?_;conv=>whnf
         refine⟨(m,usB p I,rdI p D O I),⟨⟨q+1,hW⟩,fun h=>?_⟩,?_,hle⟩
         .simp only at h⊢;rw[h]at u;have v:rdI p D O I=I:=by simpa using u
          rw[v];exact⟨v,rfl⟩
         .simp only;have hOW:tot (rdI p D O I)<=400:=(q2r p D (usB p I) O).tot b;cases m with
          | true=>
            have v:rdI p D O I≠I:=by simpa using u
            have V:=TO b (D:=D) (O:=O) (k:=q) (by rw[<-hW,<-hq];exact v);rw[<-hW,<-hq]at V;simp only[z1e];omega
          | false=>
            have v:rdI p D O I=I:=by simpa using u
            rw[v];simp only[z1e,Bool.toNat_false];omega
        have y:(sheetOf p).l[k].s∈VJ p:=by rw[<-DK];exact x6r.2 ⟨_,x6o n,rfl⟩
        have g:k=(((usB p I).take k).map eStrs).length:=by rw[x6j,x7m];omega
        have B:=Gl ⟨sheetOf p,wysB p,D,(usB p I).take k,I,O⟩ (sheetOf p).l[k].s (fun h4=>hI.use b rfl rfl y h4);rw[IF (p:=p) (I:=I) rfl rfl]at B;have hd1:SpecH prog 98 ([AV.ip (Book.cells ⟨sheetOf p,wysB p,D,(usB p I).take k,I,O⟩),.agg (sheetOf p).l[k].s.cells].map .p) [] (OneRow (Gy (Vh (bkI p I) (sheetOf p).l[k].s)) (Vh (bkI p I) (sheetOf p).l[k].s=[])):=B;have hdl:=SH b hI y;have F:=Lz (L:=usB p I) (k:=k) (by omega) (o:=WN (Vh (bkI p I) (sheetOf p).l[k].s)) (by unfold usB;rw[z0y]);generalize hds:Vh (bkI p I) (sheetOf p).l[k].s=ds at*
        clear B;conv=>whnf
        repeat' (first|((first|refine dA ?_|refine x6d rfl ?_|refine aD ?_|refine bP ?_|(refine iA fun _=>?_)|refine wI ?_|refine x8e g rfl (by show(k+1)*24<=140737488355328;omega) (by show k+1<=9223372036854775807;omega) (fun x hx=>by rcases x6p.1 hx with rfl;exact⟨rfl,rfl⟩) ?_);conv=>whnf)|(apply bD<;>intro _<;>first|omega|conv=>whnf)|(refine OC 6 rfl hd1 (.cons (q8d rfl (.hd (x8m some Zx) Zl) (.hd rfl hKD) (.hd rfl g) (.hd rfl c) (.hd rfl H)) (.cons (.p (Sub.refl _)) .nil)) (fun z=>?_) ?_<;>conv=>whnf)|(refine CallK.nil 6 9 1 rfl (.row .nil) ?_;refine CallK.heap [(1000,6)] 0 (x6i (x6e _) x7h) (by refine x6y (j:=6) rfl rfl ?_ ?_;exact CSub.refl _;exact x7f) (KX [] (by simp)) rfl rfl ?_;rintro l' H' ⟨rfl,rfl⟩;conv=>whnf)|(refine CallK.heap [(1000,6)] 0 (x6i (x6e _) x7h) (by refine x6y (j:=6) rfl rfl ?_ ?_;exact CSub.refl _;exact x7f) (KX ds (by omega)) rfl rfl ?_;rintro l' H' ⟨rfl,rfl⟩;conv=>whnf)|(refine x6d ?_ ?_<;>conv=>whnf))
        all_goals first
         |exact⟨k+1,n,by omega,Le.of_eq (by rw[F,z];rfl)⟩
         |exact⟨k+1,n,by omega,Le.of_eq (by rw[F];rfl)⟩
    | true =>
      have hLl:((sheetOf p).l.map fun i=>AV.agg i.cells).length=(sheetOf p).l.length:=x6j _;obtain⟨_,_,_,hsl,_⟩:=QY p;conv=>whnf
      repeat' ((first|(refine iM fun _=>?_)|refine x6d rfl ?_|refine Br.tt ?_);conv=>whnf)
      refine LoopK.inv QW (fun k:Nat=>⟨[(1,.p (.ip p.cells)),(3,.ptr 2 0),(5,.p .ff),(62,.p (UH (sheetOf p).l)),(63,.p (.int .i64 ((sheetOf p).l.map fun i=>AV.agg i.cells).length)),(64,.p (.int .i64 k))],[(4,JZ ((dfB p O).take k)),(3,Fb p p.A.length),(2,RO p (.hd 3 0 p.A.length) (.hd 4 0 k) (.p .nils) p.A.length),(1,JZ O),(0,JZ (List.replicate p.A.length []))]⟩) (fun k=>k<=(sheetOf p).l.length) (fun k=>(sheetOf p).l.length-k) 0
       (Le.trans (s':=⟨[(1,.p (.ip p.cells)),(3,.ptr 2 0),(5,.p .ff),(62,.p (UH (sheetOf p).l)),(63,.p (.int .i64 ((sheetOf p).l.map fun i=>AV.agg i.cells).length)),(64,.p (.int .i64 (0:Nat)))],[(3,Fb p p.A.length),(2,RO p (.hd 3 0 p.A.length) (.p .nils) (.p .nils) p.A.length),(1,JZ O),(0,JZ (List.replicate p.A.length []))]⟩) (lE) (Le.mk [(4,JZ [])] (by simp[Chunk.new0,JZ];rfl) (by simp) (by simp) (.r (.r (.r (.r (.r (.r .nil)))))) (.new x6g (.cons rfl (.refl _) (.cons rfl (.obj (.r (.r (.cons (.nil x6g) (.r (.r (.r .nil))))))) (.cons rfl (.refl _) (.cons rfl (.refl _) .nil))))))) (x6t _) ?_
      intro k hk;rcases x6c k (sheetOf p).l.length with n|n;rotate_left 1
      .obtain rfl:k=(sheetOf p).l.length:=by omega
       have G:=Ro p O;have M:(rdO p O).length=O.length:=by rw[J.len];unfold rdO otB;rw[x6j,x9c]
       have hOn:=J.len;rw[show(dfB p O).take (sheetOf p).l.length=dfB p O from x7w (by omega)];have Q:∀d∈dfB p O,d.length<=1000:=fun d Q=>by
        obtain⟨it,hi,rfl⟩:=x6r.1 Q;have v:=Kf (PQ (bkO p O) it.s);have V:=Do b J (t:=it.s) (by rw[<-DK];exact x6r.2 ⟨_,hi,rfl⟩);omega
       conv=>whnf
       repeat' (first|(refine iM fun _=>?_;conv=>whnf)|(apply bD<;>intro _<;>first|omega|conv=>whnf))
       refine LoopK.inv QW (fun x:Nat×Bool=>⟨[(1,.p (.ip p.cells)),(3,.ptr 2 0),(5,.p (.bool x.2)),(85,.p (.int .i64 (p.A.map fun f=>AV.agg f.cells).length)),(86,.p (.int .i64 x.1))],[(4,JZ (dfB p O)),(3,Fb p p.A.length),(2,RO p (.hd 3 0 p.A.length) (.hd 4 0 (sheetOf p).l.length) (.p .nils) p.A.length),(1,JZ ((rdO p O).take x.1++O.drop x.1)),(0,JZ (List.replicate p.A.length []))]⟩)
        (fun x=>x.1<=p.A.length/\x.2 = !decide ((rdO p O).take x.1=O.take x.1)) (fun x=>p.A.length-x.1) (0,false)
        (Le.mk [] (by simp) (by simp) (by simp) (.r (.r (.cons (.p (Sub.ff rfl)) (.r (.r .nil))))) (.cons rfl (.refl _) (.cons rfl (.refl _) (.cons rfl (.refl _) (.cons rfl (.refl _) (.cons rfl (.refl _) .nil)))))) ⟨x6t _,rfl⟩ ?_
       rintro⟨k,m⟩ ⟨hk1,u⟩;simp only at hk1 u⊢;rcases x6c k p.A.length with n|n;rotate_left 1
       .obtain rfl:k=p.A.length:=by omega
        rw[x7w (by omega),x7w (by omega)]at u;rw[x7w (by omega),x7v (by omega),x8x];have hW:rdO p O=itO p (r+1):=by rw[hr];rfl
        conv=>whnf
        repeat' (apply bD<;>intro _<;>first|omega|conv=>whnf)
        refine⟨(m,dfB p O,rdO p O),⟨⟨r+1,hW⟩,fun h=>?_⟩,?_,Le.mk [] (by simp) (by simp) (by simp) (.r (.r (.r .nil))) (.cons rfl (.refl _) (.cons rfl (.refl _) (.cons rfl (.of_eq (by rw[G])) (.cons rfl (.refl _) (.cons rfl (.refl _) .nil)))))⟩
        .simp only at h⊢;rw[h]at u;have v:rdO p O=O:=by simpa using u
         rw[v];exact⟨v,rfl⟩
        .simp only;have hOW:=(q2s p (dfB p O)).tot b;have hOW:tot (rdO p O)<=400:=hOW;cases m with
         | true=>
           have v:rdO p O≠O:=by simpa using u
           have V:=S4 (p:=p) (k:=r) (by rw[<-hW,<-hr];exact v);rw[<-hW,<-hr]at V;simp only[z1e];omega
         | false=>
           have v:rdO p O=O:=by simpa using u
           rw[v];simp only[z1e,Bool.toNat_false];omega
       have E:p.A[k]?=some p.A[k]:=by simp
       have hpk:=WP E;have hWk:wysB p=(wysB p):=rfl;have hout:=Gm ⟨sheetOf p,wysB p,dfB p O,[],List.replicate p.A.length [],(rdO p O).take k++O.drop k⟩ p rfl b k p.A[k] E (by show(wysB p)[k]?=_;rw[Tn n,hpk]) G Q;have hrow:(rdO p O)[k]'(by omega)=WN (R6 p k p.A[k] (dfB p O) (itsOf p k p.A[k])):=by
        unfold rdO otB;rw[z0y,List.getElem_range];unfold otA;rw[hpk]
       have hol:(R6 p k p.A[k] (dfB p O) (itsOf p k p.A[k])).length<=1000000000:=by
        have v:=Sg (p:=p) (i:=k) (f:=p.A[k]) Q (itsOf p k p.A[k]);have V:(itsOf p k p.A[k]).length<=200:=by
         obtain⟨_,_,_,_,hsp⟩:=QY p;obtain⟨_,_,h3,h4⟩:=hsp k _ E;have h5:=x8m List.length h4;rw[x9x,x7m]at h5;have e1:itL (k:Nat) 0 (-1) 0 (QH p.A k) p.A[k].body=itsOf p k p.A[k]:=rfl;rw[e1]at h5;omega
        have h3:(itsOf p k p.A[k]).length*1000<=200*1000:=x8g _ V;omega
       have hout1:SpecH prog 96 ([AV.ip (Book.cells ⟨sheetOf p,wysB p,dfB p O,[],List.replicate p.A.length [],(rdO p O).take k++O.drop k⟩),.int .i64 k].map .p) [] (OneRow (Gy (R6 p k p.A[k] (dfB p O) (itsOf p k p.A[k]))) False):=hout;have R:=IG (W:=rdO p O) (O:=O) (k:=k) (by omega) M;have hat:=q3y (W:=rdO p O) (O:=O) (k:=k) (by omega) M;have hln:=IK (W:=rdO p O) (O:=O) (k:=k) (by omega) M;have C:=q3j (W:=rdO p O) (O:=O) (k:=k) (by omega) (by omega);have hEq:=WT ((rdO p O)[k]'(by omega)) (O[k]'(by omega));rw[hrow]at hEq R C;have g:(sheetOf p).l.length=((dfB p O).map eStrs).length:=by rw[x6j];omega
       have H:p.A.length=(((rdO p O).take k++O.drop k).map eStrs).length:=by rw[hln];omega
       have c:p.A.length=((List.replicate p.A.length ([]:List Str)).map eStrs).length:=by rw[x6j,x8j]
       clear hout hrow;generalize R6 p k p.A[k] (dfB p O) (itsOf p k p.A[k])=ol at*
       generalize hdq:decide (WN ol=O[k])=dq at hEq C;have hdk:decide ((rdO p O).take k=O.take k) = !m:=by rw[u,Bool.not_not]
       rw[hdk]at C;cases m<;>cases dq;all_goals
        conv=>whnf
        repeat' (first|((first|refine x6d rfl ?_|refine wI ?_|refine x8q k rfl (by omega) ?_|refine x8p k 0 (eStrs O[k]) (by omega) hat ?_|refine cP hEq ?_|refine z0j k 0 (eStrs O[k]) (eStrs (WN ol)) (by omega) hat (x7u 1) rfl ?_);conv=>whnf)|(apply bD<;>intro _<;>first|omega|conv=>whnf)|(apply bB<;>intro _<;>conv=>whnf)|(refine OC 5 rfl hout1 (.cons (q8d rfl (.hd (x8m some Zx) Zl) (.hd rfl g) (.p Sub.nils) (.hd rfl c) (.hd rfl H)) (.cons (.p (Sub.refl _)) .nil)) (fun z=>z.elim) ?_;conv=>whnf)|(refine CallK.heap [(1000,5)] 0 (x6i (x6e _) x7h) (by refine x6y (j:=5) rfl rfl ?_ ?_;exact CSub.refl _;exact x7f) (KX ol hol) rfl rfl ?_;rintro l' H' ⟨rfl,rfl⟩;conv=>whnf))
       all_goals first
        |exact absurd (show false=true by assumption) (by decide)
        |exact absurd (show true=false by assumption) (by decide)
        |exact⟨(k+1,true),⟨n,by simp only;rw[C];rfl⟩,by simp only;omega,Le.mk [] (by simp) (by simp) (by simp) (.r (.r (.cons (.p (Sub.tt rfl)) (.r (.r .nil))))) (.cons rfl (.refl _) (.cons rfl (.refl _) (.cons rfl (.refl _) (.cons rfl (.of_eq (x8m (Chunk.own 22 1) R)) (.cons rfl (.refl _) .nil)))))⟩
        |exact⟨(k+1,true),⟨n,by simp only;rw[C];rfl⟩,by simp only;omega,Le.mk [] (by simp) (by simp) (by simp) (.r (.r (.r (.r (.r .nil))))) (.cons rfl (.refl _) (.cons rfl (.refl _) (.cons rfl (.refl _) (.cons rfl (.of_eq (x8m (Chunk.own 22 1) R)) (.cons rfl (.refl _) .nil)))))⟩
        |exact⟨(k+1,false),⟨n,by simp only;rw[C];rfl⟩,by simp only;omega,Le.mk [] (by simp) (by simp) (by simp) (.r (.r (.r (.r (.r .nil))))) (.cons rfl (.refl _) (.cons rfl (.refl _) (.cons rfl (.refl _) (.cons rfl (.of_eq (x8m (Chunk.own 22 1) R)) (.cons rfl (.refl _) .nil)))))⟩
        |exact⟨(k+1,false),⟨n,by simp only;rw[C];rfl⟩,by simp only;omega,Le.mk [] (by simp) (by simp) (by simp) (.r (.r (.cons (.p (Sub.ff rfl)) (.r (.r .nil))))) (.cons rfl (.refl _) (.cons rfl (.refl _) (.cons rfl (.refl _) (.cons rfl (.of_eq (x8m (Chunk.own 22 1) R)) (.cons rfl (.refl _) .nil)))))⟩
      have y:(sheetOf p).l[k].s∈VJ p:=by rw[<-DK];exact x6r.2 ⟨_,x6o n,rfl⟩
      have G:=Ro p O;have g:k=(((dfB p O).take k).map eStrs).length:=by rw[x6j,x7m];omega
      have H:p.A.length=(O.map eStrs).length:=by rw[x6j,J.len]
      have c:p.A.length=((List.replicate p.A.length ([]:List Str)).map eStrs).length:=by rw[x6j,x8j]
      have B:=Gn ⟨sheetOf p,wysB p,(dfB p O).take k,[],List.replicate p.A.length [],O⟩ (sheetOf p).l[k].s (fun h4=>J.call b rfl rfl y h4);rw[AP rfl rfl]at B;have hd1:SpecH prog 95 ([AV.ip (Book.cells ⟨sheetOf p,wysB p,(dfB p O).take k,[],List.replicate p.A.length [],O⟩),.agg (sheetOf p).l[k].s.cells].map .p) [] (OneRow (Gy (PQ (bkO p O) (sheetOf p).l[k].s)) (PQ (bkO p O) (sheetOf p).l[k].s=[])):=B;have hdl:=Do b J y;have F:=Lz (L:=dfB p O) (k:=k) (by omega) (o:=WN (PQ (bkO p O) (sheetOf p).l[k].s)) (by unfold dfB;rw[z0y]);generalize hds:PQ (bkO p O) (sheetOf p).l[k].s=ds at*
      clear B;conv=>whnf
      repeat' (first|((first|refine dA ?_|refine x6d rfl ?_|refine aD ?_|refine bP ?_|(refine iA fun _=>?_)|refine wI ?_|refine x8e g rfl (by show(k+1)*24<=140737488355328;omega) (by show k+1<=9223372036854775807;omega) (fun x hx=>by rcases x6p.1 hx with rfl;exact⟨rfl,rfl⟩) ?_);conv=>whnf)|(apply bD<;>intro _<;>first|omega|conv=>whnf)|(refine OC 5 rfl hd1 (.cons (q8d rfl (.hd (x8m some Zx) Zl) (.hd rfl g) (.p Sub.nils) (.hd rfl c) (.hd rfl H)) (.cons (.p (Sub.refl _)) .nil)) (fun z=>?_) ?_<;>conv=>whnf)|(refine CallK.nil 5 9 1 rfl (.row .nil) ?_;refine CallK.heap [(1000,5)] 0 (x6i (x6e _) x7h) (by refine x6y (j:=5) rfl rfl ?_ ?_;exact CSub.refl _;exact x7f) (KX [] (by simp)) rfl rfl ?_;rintro l' H' ⟨rfl,rfl⟩;conv=>whnf)|(refine CallK.heap [(1000,5)] 0 (x6i (x6e _) x7h) (by refine x6y (j:=5) rfl rfl ?_ ?_;exact CSub.refl _;exact x7f) (KX ds (by omega)) rfl rfl ?_;rintro l' H' ⟨rfl,rfl⟩;conv=>whnf)|(refine x6d ?_ ?_<;>conv=>whnf))
      all_goals first
       |exact⟨k+1,n,by omega,Le.of_eq (by rw[F,z];rfl)⟩
       |exact⟨k+1,n,by omega,Le.of_eq (by rw[F];rfl)⟩
def Kh(p:Pg)(n:Str):Int:=idxF (fun f=>f.name==n) p.A
noncomputable def outsN(p:Pg)(n:Str):List Str:=if QS p=true/\0<=Kh p n then(bookOf p).N.getD (Kh p n).toNat []else []
noncomputable def OU(p:Pg)(n:Str):List Str:=if QS p=true/\0<=Kh p n then(bookOf p).ins.getD (Kh p n).toNat []else []
noncomputable def Ri(p:Pg)(id:Int):List Str:=if QS p=true/\1<=id/\id<=(sheetOf p).l.length then(bookOf p).M.getD (id-1).toNat []else []
noncomputable def Th(p:Pg)(id:Int):List Str:=if QS p=true/\1<=id/\id<=(sheetOf p).l.length then(bookOf p).P.getD (id-1).toNat []else []
def I2{n:Str}(h:0<=Kh p n):(Kh p n).toNat<p.A.length:=by
 unfold Kh idxF at h⊢;cases i:p.A.any fun f=>f.name==n with
 | true=>
   rw[x7z];obtain⟨x,j,l⟩:=x8z.1 i;have:=List.findIdx_lt_length_of_exists (p:=fun f:Pr=>f.name==n) ⟨x,j,l⟩;simpa using this
 | false=>
   rw[i,x7k]at h;omega
def Bo(h:k<O.length):(O.map eStrs)[k]?=some (eStrs (O.getD k [])):=by
 rw[x6a,x6h,x6k h];rfl
def He(p:Pg)(d:Fit p)(n:Str):SpecP prog 21 [.agg p.cells,.str n] (fun r=>r=eStrs (outsN p n)):=by
 refine sB Pa func21 rfl call21 ?_;conv=>whnf
 have y:=Y8 p d;cases q:QS p with
 | false=>
   have e:outsN p n=[]:=by unfold outsN;rw[if_neg (by rw[q];simp)]
   rw[e];have j:=y.mono (R':=fun r=>r=.nilp) fun r x=>x.2 q;repeat' (refine cP j ?_;conv=>whnf)
   all_goals first
    |contradiction
    |exact⟨_,.p Sub.nils,rfl⟩
 | true=>
   have j:=y.mono (R':=fun r=>r=.ip (bookOf p).cells) fun r x=>x.1 q;have c:=FN q;have z:=(AQ q).1.len;have g:(bookOf p).s.p=p:=by rw[c.s];exact(QY p).1
   have t:=ZQ (bookOf p).s n;rw[g]at t;have m:SpecP prog 51 [.ip (bookOf p).s.cells,.str n] (fun r=>r=.int .i64 (Kh p n)):=t;have v:=fun h=>I2 (p:=p) (n:=n) h;have u:=fun h=>Bo (O:=(bookOf p).N) (k:=(Kh p n).toNat) (by rw[z];exact v h);have e:outsN p n=if 0<=Kh p n then(bookOf p).N.getD (Kh p n).toNat []else []:=by
    unfold outsN;by_cases l:0<=Kh p n
    .rw [if_pos ⟨q,l⟩,if_pos l]
    .rw [if_neg (fun h=>l h.2),if_neg l]
   rw[e];generalize Kh p n=i at*
   generalize bookOf p=b at*
   by_cases l:0<=i
   .rw [if_pos l];have u:=u l;repeat' (first|((first|refine dA ?_|refine cP j ?_|refine cP m ?_|(refine IdxK.at (k:=i.toNat) (by omega) u rfl ?_));conv=>whnf)|(apply bD<;>intro _<;>first|omega|conv=>whnf))
    all_goals first
     |contradiction
     |exact RetK.p rfl
     |exact⟨_,.p (Sub.refl _),rfl⟩
   .rw [if_neg l];repeat' (first|((first|refine cP j ?_|refine cP m ?_);conv=>whnf)|(apply bD<;>intro _<;>first|omega|conv=>whnf))
    all_goals first
     |contradiction
     |exact⟨_,.p Sub.nils,rfl⟩
def Ed(p:Pg)(d:Fit p)(n:Str):SpecP prog 23 [.agg p.cells,.str n] (fun r=>r=eStrs (OU p n)):=by
 refine sB Rj func23 rfl call23 ?_;conv=>whnf
 have y:=Y8 p d;cases q:QS p with
 | false=>
   have e:OU p n=[]:=by unfold OU;rw[if_neg (by rw[q];simp)]
   rw[e];have j:=y.mono (R':=fun r=>r=.nilp) fun r x=>x.2 q;repeat' (refine cP j ?_;conv=>whnf)
   all_goals first
    |contradiction
    |exact⟨_,.p Sub.nils,rfl⟩
 | true=>
   have j:=y.mono (R':=fun r=>r=.ip (bookOf p).cells) fun r x=>x.1 q;have c:=FN q;have z:=(AQ q).2.len;have g:(bookOf p).s.p=p:=by rw[c.s];exact(QY p).1
   have t:=ZQ (bookOf p).s n;rw[g]at t;have m:SpecP prog 51 [.ip (bookOf p).s.cells,.str n] (fun r=>r=.int .i64 (Kh p n)):=t;have v:=fun h=>I2 (p:=p) (n:=n) h;have u:=fun h=>Bo (O:=(bookOf p).ins) (k:=(Kh p n).toNat) (by rw[z];exact v h);have e:OU p n=if 0<=Kh p n then(bookOf p).ins.getD (Kh p n).toNat []else []:=by
    unfold OU;by_cases l:0<=Kh p n
    .rw [if_pos ⟨q,l⟩,if_pos l]
    .rw [if_neg (fun h=>l h.2),if_neg l]
   rw[e];generalize Kh p n=i at*
   generalize bookOf p=b at*
   by_cases l:0<=i
   .rw [if_pos l];have u:=u l;repeat' (first|((first|refine dA ?_|refine cP j ?_|refine cP m ?_|(refine IdxK.at (k:=i.toNat) (by omega) u rfl ?_));conv=>whnf)|(apply bD<;>intro _<;>first|omega|conv=>whnf))
    all_goals first
     |contradiction
     |exact RetK.p rfl
     |exact⟨_,.p (Sub.refl _),rfl⟩
   .rw [if_neg l];repeat' (first|((first|refine cP j ?_|refine cP m ?_);conv=>whnf)|(apply bD<;>intro _<;>first|omega|conv=>whnf))
    all_goals first
     |contradiction
     |exact⟨_,.p Sub.nils,rfl⟩
def Cp(p:Pg)(z:Fit p)(id:Int):SpecP prog 25 [.agg p.cells,.int .i64 id] (fun r=>r=eStrs (Ri p id)):=by
 refine sB Pc func25 rfl call25 ?_;conv=>whnf
 have v:=Y8 p z;cases m:QS p with
 | false=>
   have e:Ri p id=[]:=by unfold Ri;rw[if_neg (by rw[m];simp)]
   rw[e];have i:=v.mono (R':=fun r=>r=.nilp) fun r t=>t.2 m;repeat' (refine cP i ?_;conv=>whnf)
   all_goals first
    |contradiction
    |exact⟨_,.p Sub.nils,rfl⟩
 | true=>
   have i:=v.mono (R':=fun r=>r=.ip (bookOf p).cells) fun r t=>t.1 m;have x:=FN m;have d:(bookOf p).M.length=(sheetOf p).l.length:=by rw[x.M];exact x6j _
   have y:=(XZ m).2.2;obtain⟨_,_,_,c,_⟩:=QY p;have n:SpecP prog 60 [.ip (bookOf p).s.cells,.int .i64 id] (fun r=>r=.bool (decide (1<=id)&&decide (id<=(sheetOf p).l.length))):=by
    have u:=MR (bookOf p).s id;rw[show(bookOf p).s.l=(sheetOf p).l by rw[x.s]]at u;exact u
   have q:=fun h=>Bo (O:=(bookOf p).M) (k:=(id-1).toNat) h;have e:Ri p id=if 1<=id/\id<=(sheetOf p).l.length then(bookOf p).M.getD (id-1).toNat []else []:=by
    unfold Ri;by_cases j:1<=id/\id<=(sheetOf p).l.length
    .rw [if_pos ⟨m,j⟩,if_pos j]
    .rw [if_neg (fun h=>j h.2),if_neg j]
   rw[e];generalize(sheetOf p).l.length=sl at*
   generalize bookOf p=b at*
   by_cases j:1<=id/\id<=(sl:Int)
   .rw [if_pos j];rw[show(decide (1<=id)&&decide (id<=(sl:Int)))=true by simp[j]]at n;have q:=q (by omega);repeat' (first|((first|refine wI ?_|refine cP i ?_|refine cP n ?_|(refine IdxK.at (k:=(id-1).toNat) (by omega) q rfl ?_));conv=>whnf)|(apply bN<;>intro _<;>conv=>whnf))
    all_goals first
     |contradiction
     |exact RetK.p rfl
     |exact⟨_,.p (Sub.refl _),rfl⟩
   .rw [if_neg j];rw[show(decide (1<=id)&&decide (id<=(sl:Int)))=false by rw[z0b,x8o,x8o];omega]at n;repeat' (first|((first|refine cP i ?_|refine cP n ?_);conv=>whnf)|(apply bN<;>intro _<;>conv=>whnf))
    all_goals first
     |contradiction
     |exact⟨_,.p Sub.nils,rfl⟩
def Cn(p:Pg)(z:Fit p)(id:Int):SpecP prog 26 [.agg p.cells,.int .i64 id] (fun r=>r=eStrs (Th p id)):=by
 refine sB Pe func26 rfl call26 ?_;conv=>whnf
 have v:=Y8 p z;cases m:QS p with
 | false=>
   have e:Th p id=[]:=by unfold Th;rw[if_neg (by rw[m];simp)]
   rw[e];have i:=v.mono (R':=fun r=>r=.nilp) fun r t=>t.2 m;repeat' (refine cP i ?_;conv=>whnf)
   all_goals first
    |contradiction
    |exact⟨_,.p Sub.nils,rfl⟩
 | true=>
   have i:=v.mono (R':=fun r=>r=.ip (bookOf p).cells) fun r t=>t.1 m;have x:=FN m;have d:(bookOf p).P.length=(sheetOf p).l.length:=by rw[x.P];exact x6j _
   have y:=(XZ m).2.2;obtain⟨_,_,_,c,_⟩:=QY p;have n:SpecP prog 60 [.ip (bookOf p).s.cells,.int .i64 id] (fun r=>r=.bool (decide (1<=id)&&decide (id<=(sheetOf p).l.length))):=by
    have u:=MR (bookOf p).s id;rw[show(bookOf p).s.l=(sheetOf p).l by rw[x.s]]at u;exact u
   have q:=fun h=>Bo (O:=(bookOf p).P) (k:=(id-1).toNat) h;have e:Th p id=if 1<=id/\id<=(sheetOf p).l.length then(bookOf p).P.getD (id-1).toNat []else []:=by
    unfold Th;by_cases j:1<=id/\id<=(sheetOf p).l.length
    .rw [if_pos ⟨m,j⟩,if_pos j]
    .rw [if_neg (fun h=>j h.2),if_neg j]
   rw[e];generalize(sheetOf p).l.length=sl at*
   generalize bookOf p=b at*
   by_cases j:1<=id/\id<=(sl:Int)
   .rw [if_pos j];rw[show(decide (1<=id)&&decide (id<=(sl:Int)))=true by simp[j]]at n;have q:=q (by omega);repeat' (first|((first|refine wI ?_|refine cP i ?_|refine cP n ?_|(refine IdxK.at (k:=(id-1).toNat) (by omega) q rfl ?_));conv=>whnf)|(apply bN<;>intro _<;>conv=>whnf))
    all_goals first
     |contradiction
     |exact RetK.p rfl
     |exact⟨_,.p (Sub.refl _),rfl⟩
   .rw [if_neg j];rw[show(decide (1<=id)&&decide (id<=(sl:Int)))=false by rw[z0b,x8o,x8o];omega]at n;repeat' (first|((first|refine cP i ?_|refine cP n ?_);conv=>whnf)|(apply bN<;>intro _<;>conv=>whnf))
    all_goals first
     |contradiction
     |exact⟨_,.p Sub.nils,rfl⟩
section
variable {P:Program}{T:Tab}{N:Nat}{σ:Mem}{β:Lab}{a:Act}{w:World}{o:Oper}{K:St->Prop}{s:St}
def T8(e:TypeId){sz n:Nat}{cs:List LV}{vs:Array Value}(t:(execOp a.eval o).run P w=.ok (.value (.slice (some ⟨w.heap.size,0,none⟩) n n)) (w.alloc (.cells vs e)))(C:Rel N σ β s a w)(y:RepC σ β cs vs.toList)(g:∀k,WW k s=true->LV.free.freeAll k cs=true)(i:n<=maxLen)(h:HF 60 0 s fun k=>setD N s.sl o.dst (.hd k 0 n) fun sl=>K ⟨sl,(k,.obj e cs)::s.H⟩):R3 P N σ β a w s o K:=by
 intro Q;obtain⟨k,z,h⟩:=YU h;have v:=y.set (k:=k) (some ⟨w.heap.size,n,sz,[],i⟩) (g k z);have m:(Chunk.obj e cs).holds σ (β.set k (some ⟨w.heap.size,n,sz,[],i⟩)) (w.alloc (.cells vs e)) k:=
  ⟨⟨w.heap.size,n,sz,[],i⟩,vs,by simp[Lab.set],heap_alloc_new w _,by simpa using y.1,fun j l A=>by
    obtain⟨u,b,c⟩:=v.2 j l A;exact⟨u,by simpa using b,c⟩⟩
 obtain⟨x,B⟩:=C.new z rfl rfl m;have q:=RepL.hd (σ:=σ) (β:=β.set k (some ⟨w.heap.size,n,sz,[],i⟩)) k 0 n ⟨w.heap.size,n,sz,[],i⟩ 0 (by simp[Lab.set]) (by simp) (.inl (by simp));simp only[Nat.sub_zero]at q;obtain⟨sl,d,r⟩:=x.setD q h;exact VR t ⟨σ,_,_,d,r,B⟩
theorem No{k:Nat}{place:Nat->Option (Nat×Nat)}:∀{ps:List (Nat×LV)}{cells out:List LV},Gb place cells ps=some out->(∀l∈cells,l.free k=true)->(∀x∈ps,x.2.free k=true)->∀l∈out,l.free k=true
 | [],cells,out,h,hc,_=>by
   simp only[Gb,x9a]at h;subst h;exact hc
 | (i,v)::r,cells,out,h,hc,hp=>by
   simp only[Gb]at h;split at h
   .cases h
   .rename_i off size q;split at h
    .cases h
    .rename_i vs m;cases n:(vs.length==size&&Nat.ble (off+size) cells.length)with
     |false=>rw[n]at h;cases h
     | true=>
       rw[n,x7z]at h;refine No h (fun l j=>?_) fun x t=>hp x (x6b _ t);rcases x6s.1 j with j|j
       .rcases x6s.1 j with j|j
        .exact hc l (List.mem_of_mem_take j)
        .exact DQ.1 (LE m (hp (i,v) x6g)) l j
       .exact hc l (List.mem_of_mem_drop j)
def Aj(hT:TabOK P T){t:TypeId}{n:Nat}{parts:Array (Nat×Operand)}(c:o.op=.buildSlice t n parts){it:TyI}(ht:T.get t=some it){e:TypeId}(V:it.desc=.slice e){m:TyI}(F:T.get e=some m)(hsm:n*m.size<=16777216)(d:0<m.size){out:List LV}(u:Gb (fun i=>some (i*m.size,m.size)) (List.replicate (n*m.size) (.p .any)) (parts.toList.map fun x=>(x.1,QR s.sl x.2))=some out)(h:HF 60 0 s fun k=>setD N s.sl o.dst (.hd k 0 n) fun sl=>K ⟨sl,(k,.obj e out)::s.H⟩):OpK P N s o K:=by
 have Y:∀k,WW k s=true->LV.free.freeAll k out=true:=fun k Z=>by
  refine DQ.2 (No u (fun l hl=>by rw[z0q hl];rfl) fun x b=>?_);obtain⟨y,_,rfl⟩:=x6r.1 b;exact Wg Z y.2
 refine⟨fun σ β a w R=>?_⟩;have z:=hT.of ht;rw[V]at z;have v:=hT _ _ F;have g:∀(j:Nat)(x:Nat×LV)(y:Nat×Value),(parts.toList.map fun x=>(x.1,QR s.sl x.2))[j]?=some x->(parts.toList.map fun x=>(x.1,a.eval x.2))[j]?=some y->RepL σ β x.2 y.2:=fun j x y b L=>by
  rw[x6a]at b L;cases Q:parts.toList[j]?with
  |none=>rw[Q]at b;cases b
  |some q=>rw[Q]at b L;cases b;cases L;exact QV R.G _
 let zs:Array Value:=(Array.range (n*m.size)).map (m.zero.cells[· % m.zero.cells.size]!);obtain⟨cs,E,J⟩:=Xn (σ:=σ) (β:=β) (place:=fun i=>some (i*m.size,m.size)) (placeL:=fun i=>some (i*m.size,m.size)) (fun _ _ h=>h) _ (parts.toList.map fun x=>(x.1,a.eval x.2)) _ zs out (by simp) g (DP (n*m.size) zs.toList (by simp[zs])) u;have A:(execOp a.eval o).run P w=.ok (.value (.slice (some ⟨w.heap.size,0,none⟩) n n)) (w.alloc (.cells cs e)):=by
  have r:Instr.fill (fun i=>some (i*m.size,m.size)) zs ((parts.map fun(i,x)=>(i,a.eval x)).toList)=some cs:=by
   rw[<-E];congr 1;simp
  by_cases B:n*m.size=0
  .have hz:zs=#[]:=by apply Array.eq_empty_of_size_eq_zero;simp[zs,B]
   have M:zs=(Array.range (n*m.size)).map ((#[]:Array Value)[· % (#[]:Array Value).size]!):=by rw[hz,B];simp[Array.range_zero']
   have:¬n*m.size>16777216:=by omega
   rw[M]at r;simp only[execOp,c,Instr.buildSlice,Sem.run_bind,run_underlying z,Result.andThen_ok,v.sizeOf,Nat.reducePow,if_neg this,if_pos B,Sem.run_pure,r,newRow,run_newObj];rfl
  .have:¬n*m.size>16777216:=by omega
   simp only[execOp,c,Instr.buildSlice,Sem.run_bind,run_underlying z,Result.andThen_ok,v.sizeOf,Nat.reducePow,if_neg this,if_neg B,v.zeroValue,Sem.run_pure,zs]at r⊢;simp only[r,Sem.run_bind,newRow,run_newObj,Result.andThen_ok,Sem.run_pure];rfl
 have C:n<=maxLen:=by
  have:n*1<=n*m.size:=Nat.mul_le_mul_left _ d;simp only[maxLen];omega
 exact T8 (sz:=m.size) e A R J Y C h
end
def Tm(n:Nat){es:List AV}{sz:Nat}{out:List LV}{j i:Prop}(r:es.length=n)(q:(es.all fun x=>x.cells.length==sz)=true)(m:out=(es.flatMap AV.cells).map .p)(l:i):BsK es sz out j i:=.own (fun x h=>by simpa using x8h.1 q x h) m l
def rwS(id kind:Int)(name D:Str)(x:List AV)(has args I L:AV):AV:=.agg ([.int .i64 id,.int .i64 kind,.nils,.str name,.str D]++x++[has,args,I,L])
def x0:List AV:=[.int .i64 0,.int .i64 0,.str [],.nils]
def bd0:List AV:=[rwS 1 1 [118] [] (X.mk 1 2 [] []).cells .ff .nils .nils .nils,
 rwS 2 4 [103] [112] x0 .ff (.sl [.agg ([.ff,.str []]++(X.mk 1 3 [] []).cells),.agg ([.tt,.str [118]]++x0)]) .nils .nils,
 rwS 3 3 [] [] (X.mk 2 0 [118] []).cells .ff .nils .nils .nils,rwS 4 3 [] [] (X.mk 2 0 [103] []).cells .ff .nils .nils .nils]
def bd1:List AV:=[rwS 5 1 [121] [] (X.mk 8 0 [] [.mk 2 0 [121] [],.mk 2 0 [120] []]).cells .ff .nils .nils .nils,
 rwS 6 5 [] [] (X.mk 12 0 [] [.mk 2 0 [121] [],.mk 1 9 [] []]).cells .ff .nils (.sl [rwS 7 10 [101] [] x0 .ff .nils .nils .nils]) .nils,
 rwS 8 9 [] [] (X.mk 2 0 [121] []).cells .tt .nils .nils .nils]
def prc(a b:Nat):List LV:=[.p (.str [109,97,105,110]),.p .nils,.p (.sl [.str [118]]),.hd a 0 4,.p .nils,.p (.str [112]),.p (.sl [.agg [.str [120],.ff],.agg [.str [121],.tt]]),.p .nils,.hd b 0 3,.p (.sl [.str [101]])]
def x5z:Heap:=[(5,.obj 44 (prc 1 3)),(3,.own 117 13 bd1),(1,.own 117 13 bd0),(0,.obj 25 [.p (.sl [.str [103]]),.hd 5 0 2])]
def q1v:SpecH prog 43 [] [] (fun r H=>r=.agg [.p (.sl [.str [103]]),.hd 5 0 2]/\H=x5z):=by
 refine sH KW func43 rfl call43 ?_;conv=>whnf
 repeat' ((first|refine cP (DO _) ?_|refine cP (FV _) ?_|refine x6d rfl ?_|refine aD ?_|refine Tm 4 rfl rfl rfl ?_|refine Tm 3 rfl rfl rfl ?_|refine BsK.pureL rfl rfl ?_|refine Aj QW rfl rfl rfl rfl (by decide) (by decide) rfl ?_|refine cP (VL 8 (.mk 2 0 [121] []) (.mk 2 0 [120] [])) ?_|refine cP (VL 12 (.mk 2 0 [121] []) (.mk 1 9 [] [])) ?_);conv=>whnf)
 exact x8y _ (x6e _) ⟨rfl,rfl⟩
end Go.Ab
