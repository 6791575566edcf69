/- give: does a procedure need a name? walked. -/
import Derived.Test.YtgljdhjopolmcaaGreatInN19
set_option linter.all false
set_option maxRecDepth 100000
set_option maxHeartbeats 16000000
open Nat (blt)
namespace Go.Ab
open Go.Proofs.Tryz
open Go.Proofs
variable {D I O U:List (List Str)}{K:St->Prop}{N k:Nat}{P:Program}{T:Tab}{a:Int}{f:Pr}{info:Info}{net:List (List Int)}{o:List Str}{p:Pg}{s:St}{seen:List Bool}{todo:List Int}
theorem count_set{l:List Bool}{k:Nat}(i:k<l.length)(h:l.getD k false=false):(l.set k true).count false+1=l.count false:=by
 rw[x8n,x8p i]at h;have j:l[k]=false:=h;have m:0<l.count false:=List.count_pos_iff.2 (j▸x9w i);rw[List.count_set i,j];simp;omega
theorem NedJ.shutN{i:Nat}{x:Str}{n:Nat}(r:netR p i f=net)(h:QP p=true)(m:p.A[i]?=some f)(l:NedJ p i f D U o x n a k seen todo)(q:(net.getD a.toNat []).length<=k)(j:hitN p i f U o x a=false):NedI p i f D U o x n seen todo:=by
 subst r;exact l.shut h m q j
theorem NedJ.oldN{i:Nat}{x:Str}{n:Nat}(m:netR p i f=net)(j:NedJ p i f D U o x n a k seen todo)(l:k<(net.getD a.toNat []).length)(q:seen.getD ((net.getD a.toNat [])[k]).toNat false=true):NedJ p i f D U o x n a (k+1) seen todo:=by
 subst m;exact j.old l q
theorem NedJ.newN{i:Nat}{x:Str}{n:Nat}(r:netR p i f=net)(j:NedJ p i f D U o x n a k seen todo)(q:k<(net.getD a.toNat []).length){c:Int}(m:c=(net.getD a.toNat [])[k])(t:0<=c/\c<(n:Int))(l:nR p i f D x a c):NedJ p i f D U o x n a (k+1) (seen.set c.toNat true) (todo++[c]):=by
 subst r;exact j.new q m t l
def Fb(h:K s):ZD s K:=by
 rw[UZ];exact h
def O7{ops:Array Oper}(h:K s):run P T N ops [] s K:=h
def Om{id:Nat}(i:info.frz id=[])(h:Fz (info.keep id) s K):Ry info id s K:=by
 unfold Ry;rw[i];show Fz (info.keep id) s fun s=>ZD s K;have e:(fun s=>ZD s K)=K:=funext fun s=>UZ s K;rw[e];exact h
def Sz{i:List Nat}(s':St)(h:∀K:St->Prop,K s'->Fz i s K)(j:K s'):Fz i s K:=h K j
def Cw{sl:List (Nat×LV)}{d:Nat}{v:LV}{K:List (Nat×LV)->Prop}(i:blt d N=true)(h:K (Wm sl d v)):setD N sl (some d) v K:=by
 show(bif blt d N then q8q sl d v K else False);rw[i,x9z,X1];exact h
def q9d{c:Operand}{a b:Code}{K:Exit->St->Prop}(h:QR s.sl c=.p (.bool false))(i:W P T N info b K s):W P T N info (.cond c a b) K s:=by
 unfold W;rw[h];exact Br.ff i
def q9b{c:Operand}{a b:Code}{K:Exit->St->Prop}(h:QR s.sl c=.p (.bool true))(ha:W P T N info a K s):W P T N info (.cond c a b) K s:=by
 unfold W;rw[h];exact Br.tt ha
theorem Kz(b:Book)(p:Pg)(h:QP p=true)(i:Nat)(f:Pr)(H:p.A[i]?=some f)(hW:b.ways[i]?=some (QQ p i f))(o:List Str)(hO:b.M[i]?=some o)(ho:o.Pairwise ltT)(hol:o.length<=1000000000)(hDl:b.N.length=(sheetOf p).l.length)(hUl:b.P.length=(sheetOf p).l.length)(hDr:∀d∈b.N,d.Pairwise ltT/\d.length<=1000000000)(hUr:∀d∈b.P,d.Pairwise ltT/\d.length<=1000000000)(x:Str):aP 145 [.ip b.cells,.int .i64 i,H6 (netR p i f),.str x] (.bool (AC p i f b.N b.P o x)):=by
 refine sC Wa func145 ?_;conv=>whnf
 obtain⟨n,Z⟩ : ∃n,n=cntL f.body+2:=⟨_,rfl⟩;have hcn:=(XQ h).2.2;obtain⟨_,_,_,hsl,hsp⟩:=QY p;obtain⟨_,_,hle,_⟩:=hsp i f H;have hn200:n<=202:=by omega
 have hg1:(b.ways.map fun w=>AV.ip w.cells)[i]?=some (.ip (QQ p i f).cells):=by rw[x9x,hW];rfl
 have hg2:(b.M.map eStrs)[i]?=some (eStrs o):=by rw[x9x,hO];rfl
 have V:(QQ p i f).n=n:=by rw[Z];rfl
 have hHo:=Ys o x ho hol;have hP:∀a:Int,0<=a/\a<=5000->aP 91 [.ip (QQ p i f).cells,.int .i64 a] (.int .i64 (idN p i f a)):=fun a ha=>Ww (QQ p i f) f H (by show cntP p.A<=1000;omega) ⟨by rw[V];omega,by rw[V];omega⟩ a ha;have hNl:(netR p i f).length=n:=by rw[Z];exact G8 _ _
 have hNr:∀a:Nat,a<n->∀c∈(netR p i f).getD a [],nR p i f b.N x a c\/DP p i f b.N x a=false:=fun a ha c v=>by
  have hm:=(G9 fun t ht=>(NY h H t ht).1).1 v;obtain⟨t,ht,h1,h2⟩:=hm;cases hq:DP p i f b.N x a with
  |false=>exact .inr rfl
  |true=>exact .inl ⟨hq,by rw[<-h1,<-h2];exact ht⟩
 have hNi:∀a:Nat,a<n->∀c∈(netR p i f).getD a [],0<=c/\c<(n:Int):=fun a ha c v=>by
  obtain⟨t,ht,_,rfl⟩:=(G9 fun t ht=>(NY h H t ht).1).1 v;have:=(NY h H t ht).2;omega
 have hNc:∀a:Nat,((netR p i f).getD a []).length<=200000:=fun a=>by
  refine z1q (Lt _ _ a) ?_;unfold HW;rw[x8b];exact Sy h H
 have hId:∀a:Int,0<a->a<(n:Int)-1->1<=idN p i f a/\(idN p i f a-1).toNat<(sheetOf p).l.length:=fun a h1 h2=>by
  unfold idN ZN loI;rw[if_neg (by omega),if_neg (by omega)];omega
 obtain⟨net,q⟩ : ∃net,netR p i f=net:=⟨_,rfl⟩;rw[q]at hNl hNr hNi hNc⊢;generalize QQ p i f=w at hg1 V hP hW;repeat' ((first|refine x9p rfl ?_|refine aD ?_|refine aR ?_|refine iT hg1 ?_|refine MkK.mk n V (by show 1*n<=140737488355328;omega) (by unfold maxLen;omega) ?_|refine z4w (fun x hx=>by rcases x9q.1 hx with rfl;rfl) rfl ?_)<;>conv=>whnf)
 refine lJ (fun y:List Bool×List Int=>⟨[(0,.p (.ip b.cells)),(1,.j i),(2,.p (H6 net)),(3,.p (.str x)),(9,.p (.ip w.cells)),(10,.hd 0 0 n),(11,.hd 1 0 y.2.length)],[(1,.own 3 1 (y.2.map (.int .i64))),(0,.own 4 1 (y.1.map bv))]⟩) (fun y=>NedI p i f b.N b.P o x n y.1 y.2/\y.2.length+y.1.count false<=n+1) (fun y=>2*y.1.count false+y.2.length) (List.replicate n false,[0]) (Le.of_eq (by rw[z2u];rfl)) ⟨NedI.start n (by omega),by simp;omega⟩ ?_;rintro⟨seen,todo⟩ ⟨B,hc1⟩;simp only at B hc1⊢;rcases List.eq_nil_or_concat todo with rfl|⟨st,a,rfl⟩
 ·have hz:(([]:List Int).length)=0:=rfl;conv=>whnf
  repeat' ((first|(refine iM fun _=>?_)|(apply bD<;>intro _<;>try omega))<;>conv=>whnf)
  all_goals exact RetK.ff (B.stop h H)
 rw[List.concat_eq_append]at B hc1⊢;have hstl:(st++[a]).length=st.length+1:=by simp
 have E:=B.rng a (by simp);have e3:((st++[a]).map (AV.int .i64))[st.length]?=some (.int .i64 a):=by simp
 have hsl2:=B.len;have hway:=B.way a (B.td a (by simp));have hPa:=hP a ⟨E.1,by omega⟩;have z:∀(sl:List (Nat×LV)),Le Tryz.f145.ntmps ⟨sl,[(1,.own 3 1 ((st++[a]).map (.int .i64))),(0,.own 4 1 (seen.map bv))]⟩ ⟨sl,[(1,.own 3 1 (st.map (.int .i64))),(0,.own 4 1 (seen.map bv))]⟩:=fun sl=>Le.cut (.cut ⟨[.int .i64 a],by simp⟩ (.same .nil));have hrow:((avI net).map AV.sl)[a.toNat]?=some (.sl ((net.getD a.toNat []).map (.int .i64))):=by
  have:a.toNat<net.length:=by rw[hNl];omega
  rw[x8n,x8p this];simp[avI,this]
 have hrl:((net.getD a.toNat []).map (AV.int .i64)).length=(net.getD a.toNat []).length:=x8b _;have hcs:a=(n:Int)-1\/(a=0/\¬a=(n:Int)-1)\/(0<a/\¬a=(n:Int)-1):=by omega
 rcases hcs with Y|⟨hz,Y⟩|⟨L,Y⟩
 ·-- the exit
  have m:hitN p i f b.P o x a=inS o x:=by unfold hitN;rw[<-Z,z0r Y];rfl
  have r:DP p i f b.N x a=false:=by unfold DP;rw[<-Z,z0r Y];rfl
  conv=>whnf
  repeat' ((first|(refine iM fun _=>?_)|refine x9p rfl ?_|refine wI ?_|refine iO st.length ?_|refine lO e3 ?_|refine z4i 0 st.length rfl (by show((st++[a]).length:Int)-1=_;omega) (by omega) (by omega) ?_|refine iT hg2 ?_|refine cP hHo ?_|((first|apply bD|apply bB)<;>intro _<;>try omega))<;>conv=>whnf)
  ·exact RetK.tt ((MU h H).2 ⟨a,hway,by rw[m];assumption⟩)
  ·exact⟨(seen,st),⟨B.skip (by rw[m];assumption) r,by simp only;omega⟩,by simp only;omega,(z _).trans (lE)⟩
 ·-- the entry
  have m:hitN p i f b.P o x a=false:=by unfold hitN;rw[<-Z,z0s Y,z0s (by omega)];rfl
  have r:DP p i f b.N x a=true:=by unfold DP;rw[<-Z,z0s Y,z0s (by omega)];rfl
  conv=>whnf
  repeat' ((first|(refine iM fun _=>?_)|refine x9p rfl ?_|refine wI ?_|refine iO st.length ?_|refine lO e3 ?_|refine z4i 0 st.length rfl (by show((st++[a]).length:Int)-1=_;omega) (by omega) (by omega) ?_|refine iT hrow ?_|(apply bD<;>intro _<;>try omega))<;>conv=>whnf)
  refine lJ (fun y:Nat×List Bool×List Int=>⟨[(0,.p (.ip b.cells)),(1,.j i),(2,.p (H6 net)),(3,.p (.str x)),(9,.p (.ip w.cells)),(10,.hd 0 0 n),(11,.hd 1 0 y.2.2.length),(87,.p (XZ (net.getD a.toNat []))),(88,.p (.int .i64 ((net.getD a.toNat []).map (AV.int .i64)).length)),(89,.j y.1)],[(1,.own 3 1 (y.2.2.map (.int .i64))),(0,.own 4 1 (y.2.1.map bv))]⟩) (fun y=>y.1<=(net.getD a.toNat []).length/\NedJ p i f b.N b.P o x n a y.1 y.2.1 y.2.2/\y.2.2.length+y.2.1.count false<=n/\2*y.2.1.count false+y.2.2.length<=2*seen.count false+st.length) (fun y=>(net.getD a.toNat []).length-y.1) (0,seen,st) ((z _).trans (Le.of_eq rfl)) ⟨x8i _,B.open,by simp only;omega,x9h _⟩ ?_;rintro⟨k,e,td⟩ ⟨h1,C,h3,h4⟩;simp only at h1 C h3 h4⊢;rcases x8o k (net.getD a.toNat []).length with u|u;rotate_left 1
  ·conv=>whnf
   repeat' (apply bD<;>intro _<;>first|omega|conv=>whnf)
   all_goals exact⟨(e,td),⟨C.shutN q h H u m,by simp only;omega⟩,by simp only;omega,lE⟩
  ·obtain⟨c,v⟩ : ∃c,c=(net.getD a.toNat [])[k]:=⟨_,rfl⟩;have F:c∈net.getD a.toNat []:=by rw[v];exact x9w u
   have hcr:=hNi a.toNat (by omega) c F;have hcR:nR p i f b.N x a c:=by
    rcases hNr a.toNat (by omega) c F with Q|Q
    ·rwa[z2h E.1]at Q
    ·rw[z2h E.1,r]at Q;cases Q
   have hsnl:=C.len;have g:=q4u (l:=e) (i:=c.toNat) (by omega);have e5:((net.getD a.toNat []).map (AV.int .i64))[k]?=some (.int .i64 c):=by rw[x9x,x8p u,<-v];rfl
   cases R:e.getD c.toNat false with
   | true=>
     rw[R]at g;conv=>whnf
     repeat' ((first|(refine gX ?_;intros)|refine iO c.toNat ?_|refine lO g ?_|(apply bD<;>intro _<;>try omega))<;>conv=>whnf)
     all_goals first
       |exact nX (k+1,e,td) ⟨u,C.oldN q u (by rw[<-v];exact R),h3,h4⟩
   | false=>
     rw[R]at g;have hcs:=count_set (l:=e) (k:=c.toNat) (by omega) R;conv=>whnf
     repeat' ((first|(refine gX ?_;intros)|refine iO c.toNat ?_|refine lO g ?_|refine sO .tt g ?_|refine pI ?_|(apply bD<;>intro _<;>try omega))<;>conv=>whnf)
     all_goals first
       |exact⟨(k+1,e.set c.toNat true,td++[c]),⟨u,C.newN q u v hcr hcR,by simp only[x8m,x9a];omega,by simp only[x8m,x9a];omega⟩,by simp only;omega,Le.of_eq (by rw[<-v];simp only[z0o,x8a,x8m];rfl)⟩
 ·-- a statement
  obtain⟨hid1,hid2⟩:=hId a L (by omega);have hgU:(b.P.map eStrs)[(idN p i f a-1).toNat]?=some (eStrs (PL b.P (idN p i f a))):=by
   unfold PL;rw[x9x,x8n,x8p (by omega)];rfl
  have hgD:(b.N.map eStrs)[(idN p i f a-1).toNat]?=some (eStrs (PL b.N (idN p i f a))):=by
   unfold PL;rw[x9x,x8n,x8p (by omega)];rfl
  have hrU:(PL b.P (idN p i f a)).Pairwise ltT/\(PL b.P (idN p i f a)).length<=1000000000:=by
   unfold PL;rw[x8n,x8p (by omega)];exact hUr _ (x9w _)
  have hrD:(PL b.N (idN p i f a)).Pairwise ltT/\(PL b.N (idN p i f a)).length<=1000000000:=by
   unfold PL;rw[x8n,x8p (by omega)];exact hDr _ (x9w _)
  have hHU:=Ys _ x hrU.1 hrU.2;have hHD:=Ys _ x hrD.1 hrD.2;have G:hitN p i f b.P o x a=inS (PL b.P (idN p i f a)) x:=by unfold hitN;rw[<-Z,z0s Y,z0r L];rfl
  have J:DP p i f b.N x a = !inS (PL b.N (idN p i f a)) x:=by unfold DP;rw[<-Z,z0s Y,z0r L];rfl
  generalize idN p i f a=id at*
  generalize PL b.P id=lu at*
  generalize PL b.N id=ld at*
  conv=>whnf
  repeat' ((first|(refine iM fun _=>?_)|refine x9p rfl ?_|refine wI ?_|refine iO st.length ?_|refine lO e3 ?_|refine z4i 0 st.length rfl (by show((st++[a]).length:Int)-1=_;omega) (by omega) (by omega) ?_|refine cP hPa ?_|refine iT hgU ?_|(apply bD<;>intro _<;>try omega))<;>conv=>whnf)
  refine CallK.pure hHU (.cons (Sub.refl _) (.cons (Sub.refl _) .nil)) ?_;rintro _ rfl;refine Cw (by kernel_rfl) ?_;refine Fb ?_;refine O7 ?_;refine Om (by kernel_rfl) ?_;refine Sz ⟨[(0,.p (.ip b.cells)),(1,.j i),(2,.p (H6 net)),(3,.p (.str x)),(9,.p (.ip w.cells)),(10,.hd 0 0 n),(11,.hd 1 0 st.length),(12,.j a),(13,.j id),(73,.p (.bool (inS lu x)))],[(1,.own 3 1 ((st++[a]).map (.int .i64))),(0,.own 4 1 (seen.map bv))]⟩ (fun K h=>h) ?_;cases hqu:inS lu x;rotate_left
  ·refine q9b rfl ?_;conv=>whnf
   skip
   all_goals exact RetK.tt ((MU h H).2 ⟨a,hway,by rw[G,hqu]⟩)
  refine q9d rfl ?_;conv=>whnf
  repeat' ((first|refine wI ?_|refine iT hgD ?_)<;>conv=>whnf)
  refine CallK.pure hHD (.cons (Sub.refl _) (.cons (Sub.refl _) .nil)) ?_;rintro _ rfl;refine Cw (by kernel_rfl) ?_;refine Fb ?_;refine O7 ?_;refine Om (by kernel_rfl) ?_;refine Sz ⟨[(0,.p (.ip b.cells)),(1,.j i),(2,.p (H6 net)),(3,.p (.str x)),(9,.p (.ip w.cells)),(10,.hd 0 0 n),(11,.hd 1 0 st.length),(12,.j a),(83,.p (.bool (inS ld x)))],[(1,.own 3 1 ((st++[a]).map (.int .i64))),(0,.own 4 1 (seen.map bv))]⟩ (fun K h=>h) ?_;have m:hitN p i f b.P o x a=false:=by rw[G,hqu]
  cases hqd:inS ld x;rotate_left
  ·have r:DP p i f b.N x a=false:=by rw[J,hqd];rfl
   refine q9b rfl ?_;conv=>whnf
   skip
   all_goals exact⟨(seen,st),⟨B.skip m r,by simp only;omega⟩,by simp only;omega,(z _).trans (lE)⟩
  ·have r:DP p i f b.N x a=true:=by rw[J,hqd];rfl
   refine q9d rfl ?_;conv=>whnf
   repeat' ((first|(refine iM fun _=>?_)|refine iT hrow ?_)<;>conv=>whnf)
   refine lJ (fun y:Nat×List Bool×List Int=>⟨[(0,.p (.ip b.cells)),(1,.j i),(2,.p (H6 net)),(3,.p (.str x)),(9,.p (.ip w.cells)),(10,.hd 0 0 n),(11,.hd 1 0 y.2.2.length),(87,.p (XZ (net.getD a.toNat []))),(88,.p (.int .i64 ((net.getD a.toNat []).map (AV.int .i64)).length)),(89,.j y.1)],[(1,.own 3 1 (y.2.2.map (.int .i64))),(0,.own 4 1 (y.2.1.map bv))]⟩) (fun y=>y.1<=(net.getD a.toNat []).length/\NedJ p i f b.N b.P o x n a y.1 y.2.1 y.2.2/\y.2.2.length+y.2.1.count false<=n/\2*y.2.1.count false+y.2.2.length<=2*seen.count false+st.length) (fun y=>(net.getD a.toNat []).length-y.1) (0,seen,st) ((z _).trans (Le.of_eq rfl)) ⟨x8i _,B.open,by simp only;omega,x9h _⟩ ?_;rintro⟨k,e,td⟩ ⟨h1,C,h3,h4⟩;simp only at h1 C h3 h4⊢;rcases x8o k (net.getD a.toNat []).length with u|u;rotate_left 1
   ·conv=>whnf
    repeat' (apply bD<;>intro _<;>first|omega|conv=>whnf)
    all_goals exact⟨(e,td),⟨C.shutN q h H u m,by simp only;omega⟩,by simp only;omega,lE⟩
   ·obtain⟨c,v⟩ : ∃c,c=(net.getD a.toNat [])[k]:=⟨_,rfl⟩;have F:c∈net.getD a.toNat []:=by rw[v];exact x9w u
    have hcr:=hNi a.toNat (by omega) c F;have hcR:nR p i f b.N x a c:=by
     rcases hNr a.toNat (by omega) c F with Q|Q
     ·rwa[z2h E.1]at Q
     ·rw[z2h E.1,r]at Q;cases Q
    have hsnl:=C.len;have g:=q4u (l:=e) (i:=c.toNat) (by omega);have e5:((net.getD a.toNat []).map (AV.int .i64))[k]?=some (.int .i64 c):=by rw[x9x,x8p u,<-v];rfl
    cases R:e.getD c.toNat false with
    | true=>
      rw[R]at g;conv=>whnf
      repeat' ((first|(refine gX ?_;intros)|refine iO c.toNat ?_|refine lO g ?_|(apply bD<;>intro _<;>try omega))<;>conv=>whnf)
      all_goals first
        |exact nX (k+1,e,td) ⟨u,C.oldN q u (by rw[<-v];exact R),h3,h4⟩
    | false=>
      rw[R]at g;have hcs:=count_set (l:=e) (k:=c.toNat) (by omega) R;conv=>whnf
      repeat' ((first|(refine gX ?_;intros)|refine iO c.toNat ?_|refine lO g ?_|refine sO .tt g ?_|refine pI ?_|(apply bD<;>intro _<;>try omega))<;>conv=>whnf)
      all_goals first
        |exact⟨(k+1,e.set c.toNat true,td++[c]),⟨u,C.newN q u v hcr hcR,by simp only[x8m,x9a];omega,by simp only[x8m,x9a];omega⟩,by simp only;omega,Le.of_eq (by rw[<-v];simp only[z0o,x8a,x8m];rfl)⟩
inductive SlR(g:Nat->Option Nat)(sl:List (Nat×LV)):List (Nat×LV)->Prop
 |nil:SlR g sl []
 |cons {i:Nat} {l:LV} {r:List (Nat×LV)} (h:LSub ((getS sl i).ren g) l) (hr:SlR g sl r):SlR g sl ((i,l)::r)
theorem SlR.r{g:Nat->Option Nat}{sl:List (Nat×LV)}{i:Nat}{r:List (Nat×LV)}(h:SlR g sl r):SlR g sl ((i,(getS sl i).ren g)::r):=.cons (.refl _) h
theorem SlR.get{g:Nat->Option Nat}{sl sl':List (Nat×LV)}(h:SlR g sl sl')(i:Nat):LSub ((getS sl i).ren g) (getS sl' i)\/getS sl' i=.p .any:=by
 induction h with
 |nil=>exact .inr rfl
 | @cons j l r h t q=>
   simp only[getS];by_cases m:j=i
   .subst m;exact .inl (by simpa using h)
   .have:(j==i)=false:=by simp[m]
    simpa[this]using q
def q5t{s':St}(π:Nat->Nat)(x:∀k,π (π k)=k)(v:∀j,1000<=j->j<2000->π j=j)(hsl:SlR (fun k=>some (π k)) s.sl s'.sl)(hH:∀j c,(j,c)∈s'.H->∃r,(π j,r)∈s.H/\CSub (r.ren fun k=>some (π k)) c)(hnd:(s'.H.map (·.1)).Nodup):Le N s s':=fun σ β a w q=>by
 have A:∀k j,(fun k=>some (π k)) k=some j->(fun j=>β (π j)) j=β k:=fun k j C=>by
  cases C;show β (π (π k))=β k;rw[x]
 have l:∀j∈s'.H.map (·.1),π j∈s.H.map (·.1):=fun j m=>by
  obtain⟨⟨y,c⟩,E,rfl⟩:=x8c.1 m;obtain⟨r,n,_⟩:=hH y c E;exact x8c.2 ⟨_,n,rfl⟩
 refine⟨σ,fun j=>β (π j),⟨q.size,q.defers,fun i=>?_,q.heap.mem,fun j c m=>?_,hnd,fun j m i u b t=>q.heap.apart (π j) (l j m) i u b t,fun j m y g i i' u e b t d=>?_⟩,Mem.le_refl σ,Frm.refl _ _,fun b z n=>absurd z n,fun b ⟨j,m,i,u,t⟩=>.inl ⟨π j,l j m,i,u,t⟩,fun k z n=>?_⟩
 .rcases hsl.get i with h|h
  .exact h.rep ((q.G i).ren A)
  .rw [h];exact .p (.any _)
 .obtain ⟨r,n,B⟩:=hH j c m;exact B _ _ _ _ ((q.heap.chunks (π j) r n).ren (j:=j) A (by show some (π (π j))=some j;rw[x]))
 .have:=q.heap.inj (π j) (l j m) (π y) (l y g) i i' u e b t d;rw[<-x j,this,x]
 .show β (π k)=β k;rw[v k z n]
theorem KF(l:List Str)(n:l.length<=1000000000):aH 69 [.hd 1000 0 l.length] [(1000,.own 9 1 (l.map .str))] (.p (eStrs (WB l))) []:=by
 have h:=Tg l n;refine⟨h.go,fun σ β w x b c d=>(h.ok σ β w x b c d).mono fun B w' A=>?_⟩;obtain⟨r,u,σ',β',H',g,⟨rfl,rfl⟩,v,t,j⟩:=A;generalize WB l=m at*
 obtain⟨s',rfl,z⟩:=Le.row (N:=1) (s:=⟨[(0,.hd 1000 0 m.length)],[(1000,.own 9 1 (m.map .str))]⟩) (k:=1000) (e:=9) (sz:=1) (es:=m.map .str) (zs:=[0]) rfl (K:=fun s=>s=⟨[(0,.p (eStrs m))],[]⟩)
  ⟨(x8b _).symm,rfl⟩
 obtain⟨σ2,β2,q,y⟩:=z σ' β' {tmps:=#[u],defers:=[]} w' ⟨rfl,rfl,fun i=>by
  match i with
  |0=>simpa[getS]using v
  |i+1=>exact .p (by simpa[getS]using Rep.any _),t⟩
 exact⟨.p (eStrs m),u,σ2,β2,[],g,⟨rfl,rfl⟩,by simpa[getS]using q.G 0,q.heap,j.trans y⟩
def Ta(p:Pg)(h i j:LV)(n:Nat):Chunk:=.obj 77 [.p (.ip (sheetOf p).cells),h,i,j,.hd 0 0 n,.hd 1 0 n]
def JJ(L:List (List Str)):Chunk:=.own 22 1 (L.map eStrs)
def Dv(p:Pg)(k:Nat):Chunk:=.own 131 1 (((wysB p).take k).map fun w=>.ip w.cells)
theorem EK(n:Nat):ElS (List.replicate n (AV.ofV (.slice none 0 0))) ((List.replicate n ([]:List Str)).map eStrs):=by
 refine⟨by simp,fun m x h=>?_⟩;rw[z2u,z0q]at h;rw[z0q];split at h
 ·cases h;rw[if_pos (by assumption)];refine⟨_,rfl,rfl,fun j c i=>?_⟩
  match j,i with
  |0,i=>cases i;exact⟨_,rfl,Sub.nils⟩
 ·cases h
def x1v{a:AV}{n:Nat}:
  Le N ⟨[(1,.p a),(3,.ptr 2 0)],[(2,.obj 77 [.p (.ip (sheetOf p).cells),.p (AV.ofS (.slice none 0 0)),.p (AV.ofS (.slice none 0 0)),.p (AV.ofS (.slice none 0 0)),.hd 0 0 n,.hd 1 0 n]),(1,.own 22 1 (List.replicate n (AV.ofV (.slice none 0 0)))),(0,.own 22 1 (List.replicate n (AV.ofV (.slice none 0 0))))]⟩
   ⟨[(1,.p a),(3,.ptr 2 0)],[(3,Dv p 0),(2,Ta p (.hd 3 0 0) (.p .nils) (.p .nils) n),(1,JJ (List.replicate n [])),(0,JJ (List.replicate n []))]⟩:=by
 refine Le.trans (Le.L (.same (.L (EK n) (.L (EK n) .nil)))) ?_;exact Le.mk [(3,Dv p 0)] (by simp[Chunk.new0,Dv];rfl) (by simp) (by simp) (.r (.r .nil)) (.new x8l (.cons rfl (.obj (.r (.cons (.nil x8l) (.r (.r (.r (.r .nil))))))) (.cons rfl (.refl _) (.cons rfl (.refl _) .nil))))
def x4r(k:Nat):Nat:=if k=0 then 1 else if k=1 then 0 else k
theorem x4b{a:AV}{n:Nat}:
  Le N ⟨[(1,.p a),(3,.ptr 2 0)],[(2,.obj 77 [.p (.ip (sheetOf p).cells),.p (AV.ofS (.slice none 0 0)),.p (AV.ofS (.slice none 0 0)),.p (AV.ofS (.slice none 0 0)),.hd 1 0 n,.hd 0 0 n]),(1,.own 22 1 (List.replicate n (AV.ofV (.slice none 0 0)))),(0,.own 22 1 (List.replicate n (AV.ofV (.slice none 0 0))))]⟩
   ⟨[(1,.p a),(3,.ptr 2 0)],[(3,Dv p 0),(2,Ta p (.hd 3 0 0) (.p .nils) (.p .nils) n),(1,JJ (List.replicate n [])),(0,JJ (List.replicate n []))]⟩:=by
 refine Le.trans ?_ x1v;refine q5t x4r (fun k=>by unfold x4r;split<;>(try split)<;>simp_all) (fun j l m=>by unfold x4r;rw[if_neg (by omega),if_neg (by omega)]) (.r (.r .nil)) (fun j c h=>?_) (by simp);rcases x8s.1 h with i|h
 ·cases i;exact⟨_,x8l,CSub.refl _⟩
 rcases x8s.1 h with i|h
 ·cases i;exact⟨_,x8r _ (x8r _ x8l),CSub.refl _⟩
 rcases x8s.1 h with i|h
 ·cases i;exact⟨_,x8r _ x8l,CSub.refl _⟩
 ·cases h
theorem OU{W:List (List Str)}(h:k<W.length)(i:W.length=O.length):((W.take k++O.drop k).map eStrs).set k (eStrs W[k])=(W.take (k+1)++O.drop (k+1)).map eStrs:=by
 rw[<-z0o,z4c _ _ (by rw[x9s];omega),x9s,show k-min k W.length=0 by omega,x9i (by omega),List.set_cons_zero,x9v h,x9l];rfl
theorem q5g{W:List (List Str)}(h:k<O.length)(i:W.length=O.length):((W.take k++O.drop k).map eStrs)[k]?=some (eStrs O[k]):=by
 rw[x9x,x9n (by rw[x9s];omega),x9s,show k-min k W.length=0 by omega,z1v,z2o,x8p h];rfl
theorem OV{W:List (List Str)}(h:k<=O.length)(i:W.length=O.length):((W.take k++O.drop k).map eStrs).length=O.length:=by
 rw[x8b,x8m,x9s,z1d];omega
def q5h{W:List (List Str)}(l:k<W.length)(i:k<O.length):decide (W.take (k+1)=O.take (k+1))=(decide (W.take k=O.take k)&&decide (W[k]=O[k])):=by
 rw[x9v l,x9v i,<-Bool.decide_and];refine decide_eq_decide.2 ⟨fun h=>?_,fun h=>by rw[h.1,h.2]⟩;have j:=z2k h rfl;exact⟨j.1,by simpa using j.2⟩
theorem Cr(i:QP p=true)(h:OkI p I){t:S}(n:t∈WI p):(Xk (bkI p I) t).length<=1000000000:=by
 have q:=Cl t;unfold Xk;split
 ·rename_i l;have j:=(Z8 i n l).2;have r:=DV OY t.args;have u:t.args.length*1048577<=8*1048577:=z0m _ j;have m:=h.len25 i (caI (bkI p I).s.p t).toNat;have v:(inAt (bkI p I) t).length<=25:=m;simp only[x8m];omega
 ·omega
def q2x{g:FuncId}{args:List LV}{i:Option Nat}{avs:List AV}{L:List Str}{nil:Prop}(k:Nat)(n:WZ k s=true)(m:SpecH P g (avs.map .p) [] (OneRow (H9 L) nil))(ha:FrzL s.H args avs)(l:nil->setD N s.sl i (.p .nils) fun sl=>K ⟨sl,s.H⟩)(h:setD N s.sl i (.hd k 0 L.length) fun sl=>K ⟨sl,(k,.own 9 1 (L.map .str))::s.H⟩):CallK P N g args i s K:=
 KU k n m ha l fun q e sz es j=>by
  obtain⟨rfl,rfl,rfl⟩:=j;rw[x8b];exact h
def x0f{H:Heap}{m q r:LV}{n:Nat}(z:getH H 2=some (Ta p m q r n))(t:Frz H m (.sl ((wysB p).map fun w=>.ip w.cells)))(u:Frz H q (.sl (D.map eStrs)))(v:Frz H r (.sl (U.map eStrs)))(x:Frz H (.hd 0 0 n) (.sl (I.map eStrs)))(y:Frz H (.hd 1 0 n) (.sl (O.map eStrs))):Frz H (.ptr 2 0) (.ip (Book.cells ⟨sheetOf p,wysB p,D,U,I,O⟩)):=
 Frz.ptr (off:=0) (cs:=Book.cells ⟨sheetOf p,wysB p,D,U,I,O⟩) z rfl fun j l c h i=>by
  match j,h,i with
  |0,h,i=>cases h;cases i;exact .p (Sub.refl _)
  |1,h,i=>cases h;cases i;exact t
  |2,h,i=>cases h;cases i;exact u
  |3,h,i=>cases h;cases i;exact v
  |4,h,i=>cases h;cases i;exact x
  |5,h,i=>cases h;cases i;exact y
  |j+6,h,_=>cases h
def Zi:Dv p p.A.length=.own 131 1 ((wysB p).map fun w=>.ip w.cells):=by
 unfold Dv;rw[x9u (by unfold wysB;rw[x8b,z2q];exact x9h _)]
def Wv:p.A.length=((wysB p).map fun w=>AV.ip w.cells).length:=by
 unfold wysB;rw[x8b,x8b,z2q]
def R7{L:List (List Str)}(h:k<L.length)(i:L[k]=o):JJ (L.take (k+1))=.own 22 1 ((L.take k).map eStrs++[eStrs o]):=by
 unfold JJ;rw[x9v h,x8a,i];rfl
def Qc:Code->List Code
 |.seq a b=>Qc a++Qc b
 |.cond _ a b=>Qc a++Qc b
 |.block _ b=>Qc b
 |.loop b=>b::Qc b
 |_=>[]
noncomputable def x7f(k:Nat):Code:=(Qc (Tryz.f32.body.getD .skip)).getD k .skip
theorem q7p(J:QP p=true){R:List (List Str)}(H:OkO p O)(M:D.length=(sheetOf p).l.length)(e:U.length=(sheetOf p).l.length)(hd:∀d∈D,d.Pairwise ltT/\d.length<=1000000000)(hu:∀d∈U,d.Pairwise ltT/\d.length<=1000000000)(hIn:I.length=p.A.length)(hRn:R.length=p.A.length)(hR:∀(k:Nat)(h:k<p.A.length)(h':k<R.length),R[k]=WB (Se p k p.A[k] D U (O.getD k []))){K:Exit->St->Prop}(hK:∀(m:Bool)(s:St),m=(!decide (R=I))->Le Tryz.f32.ntmps s ⟨[(1,.p (.ip p.cells)),(3,.ptr 2 0),(10,.p (.bool m))],[(5,JJ U),(4,JJ D),(3,Dv p p.A.length),(2,Ta p (.hd 3 0 p.A.length) (.hd 4 0 D.length) (.hd 5 0 U.length) p.A.length),(1,JJ O),(0,JJ R)]⟩->K (.exit 12) s):
  LoopK prog tab Tryz.f32.ntmps Hs (x7f 6) K ⟨[(1,.p (.ip p.cells)),(3,.ptr 2 0),(10,.p .ff),(147,.p (.int .i64 (p.A.map fun f=>AV.agg f.cells).length)),(148,.j 0)],[(5,JJ U),(4,JJ D),(3,Dv p p.A.length),(2,Ta p (.hd 3 0 p.A.length) (.hd 4 0 D.length) (.hd 5 0 (sheetOf p).l.length) p.A.length),(1,JJ O),(0,JJ I)]⟩:=by
 obtain⟨hg,hpl,hcn⟩:=XQ J;have hpm:(p.A.map fun f=>AV.agg f.cells).length=p.A.length:=x8b _;have z:R.length=I.length:=by omega
 have hOn:=H.len;have Z:p.A.length=(O.map eStrs).length:=by rw[x8b,H.len]
 have Q:D.length=(D.map eStrs).length:=by rw[x8b]
 refine lJ (fun x:Nat×Bool=>⟨[(1,.p (.ip p.cells)),(3,.ptr 2 0),(10,.p (.bool x.2)),(147,.p (.int .i64 (p.A.map fun f=>AV.agg f.cells).length)),(148,.j x.1)],[(5,JJ U),(4,JJ D),(3,Dv p p.A.length),(2,Ta p (.hd 3 0 p.A.length) (.hd 4 0 D.length) (.hd 5 0 (sheetOf p).l.length) p.A.length),(1,JJ O),(0,JJ (R.take x.1++I.drop x.1))]⟩) (fun x=>x.1<=p.A.length/\x.2 = !decide (R.take x.1=I.take x.1)) (fun x=>p.A.length-x.1) (0,false) (lE (hsl:=.r (.r (.cons (.p (Sub.ff rfl)) (.r (.r .nil)))))) ⟨x8i _,rfl⟩ ?_;rintro⟨k,m⟩ ⟨hk1,t⟩;simp only at hk1 t⊢;rcases x8o k p.A.length with n|n;rotate_left 1
 ·obtain rfl:k=p.A.length:=by omega
  rw[x9u (by omega),x9u (by omega)]at t;rw[x9u (by omega),x9j (by omega),z0k];conv=>whnf
  repeat' (apply bD<;>intro _<;>first|omega|conv=>whnf)
  exact hK m _ t (lE (hH:=.cons rfl (.refl _) (.cons rfl (.refl _) (.cons rfl (.refl _) (.cons rfl (.of_eq (by rw[e])) (.cons rfl (.refl _) (.cons rfl (.refl _) .nil)))))))
 ·have b:p.A[k]?=some p.A[k]:=by simp
  have hpk:=WQ b;obtain⟨o,L⟩ : ∃o,O.getD k []=o:=⟨_,rfl⟩;have Y:O[k]?=some o:=by rw[<-L,x8n,x8p (by omega)];rfl
  have u:o.Pairwise ltT:=by rw[<-L];exact Zf H.rise k
  have hol25:o.length<=25:=by rw[<-L];exact H.len25 J k
  have G:(wysB p)[k]?=some (QQ p k p.A[k]):=by rw[TI n,hpk]
  have hN:=fun x=>Kz ⟨sheetOf p,wysB p,D,U,(R).take k++I.drop k,O⟩ p J k p.A[k] b G o Y u (by omega) M e hd hu x;have C:=Bs ⟨sheetOf p,wysB p,D,U,(R).take k++I.drop k,O⟩ p rfl J k p.A[k] b G o hN;have v:(R)[k]'(by omega)=WB (Se p k p.A[k] D U o):=by
   rw[hR k n (by omega),L]
  have hol:(Se p k p.A[k] D U o).length<=1000000000:=by
   have h1:(Se p k p.A[k] D U o).length<=(p.B++[tapeS]).length:=z2p _ _;rw[x8m,x9a]at h1;omega
  have E:SpecH prog 74 ([AV.ip (Book.cells ⟨sheetOf p,wysB p,D,U,(R).take k++I.drop k,O⟩),.int .i64 k].map .p) [] (OneRow (H9 (Se p k p.A[k] D U o)) False):=C;have q:=OU (W:=R) (O:=I) (k:=k) (by omega) z;have g:=q5g (W:=R) (O:=I) (k:=k) (by omega) z;have hln:=OV (W:=R) (O:=I) (k:=k) (by omega) z;have i:=q5h (W:=R) (O:=I) (k:=k) (by omega) (by omega);have y:=WR ((R)[k]'(by omega)) (I[k]'(by omega));rw[v]at y q i;have V:(sheetOf p).l.length=(U.map eStrs).length:=by rw[x8b];omega
  have c:p.A.length=(((R).take k++I.drop k).map eStrs).length:=by rw[hln];omega
  clear C v hN;generalize Se p k p.A[k] D U o=ol at*
  generalize hdq:decide (WB ol=I[k])=dq at y i;have hdk:decide ((R).take k=I.take k) = !m:=by rw[t,Bool.not_not]
  rw[hdk]at i;cases m<;>cases dq;all_goals
   conv=>whnf
   repeat' ((first|refine gX ?_|refine iO k ?_|refine lO g ?_|refine cP y ?_|refine sO (eStrs (WB ol)) g ?_|((first|apply bD|apply bB)<;>intro _<;>try omega)|refine q2x 6 rfl E (.cons (x0f rfl (.hd (z0l some Zi) Wv) (.hd rfl Q) (.hd rfl V) (.hd rfl c) (.hd rfl Z)) (.cons (.p (Sub.refl _)) .nil)) (fun F=>F.elim) ?_|(refine cH [(1000,6)] 0 (KF ol hol) ?_))<;>conv=>whnf)
  all_goals first
   |exact absurd (show false=true by assumption) (by decide)
   |exact absurd (show true=false by assumption) (by decide)
   |exact⟨(k+1,true),⟨n,by simp only;rw[i];rfl⟩,by simp only;omega,lE (hsl:=.r (.r (.cons (.p (Sub.tt rfl)) (.r (.r .nil))))) (hH:=.cons rfl (.refl _) (.cons rfl (.refl _) (.cons rfl (.refl _) (.cons rfl (.refl _) (.cons rfl (.refl _) (.cons rfl (.of_eq (z0l (Chunk.own 22 1) q)) .nil))))))⟩
   |exact⟨(k+1,true),⟨n,by simp only;rw[i];rfl⟩,by simp only;omega,lE (hH:=.cons rfl (.refl _) (.cons rfl (.refl _) (.cons rfl (.refl _) (.cons rfl (.refl _) (.cons rfl (.refl _) (.cons rfl (.of_eq (z0l (Chunk.own 22 1) q)) .nil))))))⟩
   |exact⟨(k+1,false),⟨n,by simp only;rw[i];rfl⟩,by simp only;omega,lE (hH:=.cons rfl (.refl _) (.cons rfl (.refl _) (.cons rfl (.refl _) (.cons rfl (.refl _) (.cons rfl (.refl _) (.cons rfl (.of_eq (z0l (Chunk.own 22 1) q)) .nil))))))⟩
   |exact⟨(k+1,false),⟨n,by simp only;rw[i];rfl⟩,by simp only;omega,lE (hsl:=.r (.r (.cons (.p (Sub.ff rfl)) (.r (.r .nil))))) (hH:=.cons rfl (.refl _) (.cons rfl (.refl _) (.cons rfl (.refl _) (.cons rfl (.refl _) (.cons rfl (.refl _) (.cons rfl (.of_eq (z0l (Chunk.own 22 1) q)) .nil))))))⟩
def x1u(h:k<p.A.length)(i:k<(niB p D U O).length):(niB p D U O)[k]=WB (Se p k p.A[k] D U (O.getD k [])):=by
 have j:k<((List.range p.A.length).map (niA p D U O)).length:=i;show((List.range p.A.length).map (niA p D U O))[k]'j=_;rw[z2l,List.getElem_range];unfold niA;rw[WQ (x8p h)]
def x1m:∀(k:Nat)(h:k<p.A.length)(i:k<(rdI p D O I).length),(rdI p D O I)[k]=WB (Se p k p.A[k] D (usB p I) (O.getD k [])):=fun _ h i=>x1u h i
theorem Yc(p:Pg)(hf:Fit p):SpecP prog 32 [.agg p.cells] (fun r=>(QP p=true->r=.ip (bookOf p).cells)/\(QP p=false->r=.nilp)):=by
 refine sC Hs func32 ?_;conv=>whnf
 have hM:=Jo p hf;cases b:QP p with
 | false=>
   rw[b]at hM;repeat' ((first|refine cP hM ?_|(apply bN<;>intro _))<;>conv=>whnf)
   all_goals first
    |contradiction
    |exact⟨_,.p (Sub.refl _),fun h=>(by cases h),fun _=>rfl⟩
 | true =>
   rw[b]at hM;obtain⟨hg,hpl,hcn⟩:=XQ b;have hpm:(p.A.map fun f=>AV.agg f.cells).length=p.A.length:=x8b _;have hFl:=DY p (by omega) (by omega);repeat' ((first|refine cP hM ?_|(apply bN<;>intro _))<;>conv=>whnf)
   all_goals try contradiction
   refine Wt ⟨[(1,.p (.ip p.cells)),(3,.ptr 2 0)],[(3,Dv p 0),(2,Ta p (.hd 3 0 0) (.p .nils) (.p .nils) p.A.length),(1,JJ (List.replicate p.A.length [])),(0,JJ (List.replicate p.A.length []))]⟩ ?_ ?_
   ·refine DrawK.of ZP mixed (.cons 0 false (.cons 2 false (.cons 3 false (.cons 4 false (.cons 6 false (.cons 7 false (.cons 8 false (.fork3 1 (.fork 5 (.cons 9 true (.cons 10 true (.cons 11 true (.cons 12 true .nil)))) 9 (.cons 5 true (.cons 10 true (.cons 11 true (.cons 12 true .nil))))) 5 (.fork 1 (.cons 9 true (.cons 10 true (.cons 11 true (.cons 12 true .nil)))) 9 (.cons 1 true (.cons 10 true (.cons 11 true (.cons 12 true .nil))))) 9 (.fork 1 (.cons 5 true (.cons 10 true (.cons 11 true (.cons 12 true .nil)))) 5 (.cons 1 true (.cons 10 true (.cons 11 true (.cons 12 true .nil))))))))))))) (by kernel_rfl) ?_;conv=>whnf
    repeat' ((first|(refine gX ?_;intros)|refine cP hFl ?_|refine MkK.mk p.A.length (by rw[hpm]) (by show 24*_<=140737488355328;omega) (by unfold maxLen;omega) ?_|refine x9p ?_ ?_)<;>conv=>whnf)
    all_goals first
     |exact x1v
     |exact x4b
   conv=>whnf
   repeat' ((refine iM fun _=>?_)<;>conv=>whnf)
   have Z:(wysB p).length=p.A.length:=by unfold wysB;rw[x8b,z2q]
   refine lI (fun k:Nat=>⟨[(1,.p (.ip p.cells)),(3,.ptr 2 0),(32,.p (.int .i64 (p.A.map fun f=>AV.agg f.cells).length)),(33,.j k)],[(3,Dv p k),(2,Ta p (.hd 3 0 k) (.p .nils) (.p .nils) p.A.length),(1,JJ (List.replicate p.A.length [])),(0,JJ (List.replicate p.A.length []))]⟩) (fun k=>k<=p.A.length) (fun k=>p.A.length-k) 0 (x8i _) ?_;intro k hk;rcases x8o k p.A.length with n|n
   ·have E:p.A[k]?=some p.A[k]:=by simp
    obtain⟨w1,w2,w3⟩:=PN b E;have hWn:=q8i p k p.A[k] E (by omega) w1 w3;have hwl:(((wysB p).take k).map fun w=>AV.ip w.cells).length=k:=by rw[x8b,x9s,Z];omega
    have F:Dv p (k+1)=.own 131 1 ((((wysB p).take k).map fun w=>AV.ip w.cells)++[.ip (QQ p k p.A[k]).cells]):=by
     unfold Dv;rw[x9v (by rw[Z];exact n),x8a];have e:(wysB p)[k]'(by rw[Z];exact n)=QQ p k p.A[k]:=by
      have v:=TI n;rw[x8p (by rw[Z];exact n),WQ E]at v;exact z0y v
     rw[e];rfl
    conv=>whnf
    repeat' ((first|refine dA ?_|refine gX ?_|refine cP hWn ?_|refine pA 1 8 hwl.symm ?_|(apply bD<;>intro _<;>try omega)|refine x9p ?_ ?_)<;>conv=>whnf)
    all_goals first
     |exact⟨k+1,n,by omega,Le.of_eq (by rw[F];rfl)⟩
   ·obtain rfl:k=p.A.length:=by omega
    conv=>whnf
    repeat' (apply bD<;>intro _<;>first|omega|conv=>whnf)
    refine lJ (fun x:Bool×List (List Str)×List (List Str)=>⟨[(1,.p (.ip p.cells)),(3,.ptr 2 0),(5,.p (.bool x.1))],[(4,JJ x.2.1),(3,Dv p p.A.length),(2,Ta p (.hd 3 0 p.A.length) (.hd 4 0 x.2.1.length) (.p .nils) p.A.length),(1,JJ x.2.2),(0,JJ (List.replicate p.A.length []))]⟩) (fun x=>(∃r,x.2.2=itO p r)/\(x.1=false->rdO p x.2.2=x.2.2/\x.2.1=dfB p x.2.2)) (fun x=>2*(400-tot x.2.2)+x.1.toNat) (true,[],List.replicate p.A.length []) (Le.mk [(4,JJ [])] (by simp[Chunk.new0,JJ];rfl) (by simp) (by simp) (.r (.r (.cons (.p (Sub.tt rfl)) .nil))) (.new x8l (.cons rfl (.refl _) (.cons rfl (.obj (.r (.r (.cons (.nil x8l) (.r (.r (.r .nil))))))) (.cons rfl (.refl _) (.cons rfl (.refl _) .nil)))))) ⟨⟨0,rfl⟩,fun h=>by cases h⟩ ?_;rintro⟨m,D,O⟩ ⟨⟨r,hr⟩,hm⟩;simp only at hr hm⊢;have J:=Kg p r;rw[<-hr]at J;cases m with
    | false =>
      obtain⟨Y,hf2⟩:=hm rfl;conv=>whnf
      repeat' (refine Br.ff ?_;conv=>whnf)
      subst hf2;have hfixO:=Y;clear hm Y;have G:=T6 p O;have Q:∀d∈dfB p O,d.Pairwise ltT/\d.length<=1000000000:=fun d Q=>by
       obtain⟨it,hi,rfl⟩:=x8c.1 Q;have v:=Gk (FM (bkO p O) it.s);have V:=Bd b J (t:=it.s) (by rw[<-DR];exact x8c.2 ⟨_,hi,rfl⟩);exact⟨KG _,by omega⟩
      have hOn:=J.len;obtain⟨D,hD⟩ : ∃D,dfB p O=D:=⟨_,rfl⟩;rw[hD]at G Q⊢;have hBk:∀I,(∃r,I=itI p D O r)->rdI p D O I=I->bookOf p=⟨sheetOf p,wysB p,D,usB p I,I,O⟩:=fun I v V=>by
       have hB:BookR p ⟨sheetOf p,wysB p,D,usB p I,I,O⟩:=⟨rfl,rfl,⟨r,hr⟩,hfixO,hD.symm,v,V,rfl⟩;exact hB.eq.symm
      refine lJ (fun x:Bool×List (List Str)×List (List Str)=>⟨[(1,.p (.ip p.cells)),(3,.ptr 2 0),(10,.p (.bool x.1))],[(5,JJ x.2.1),(4,JJ D),(3,Dv p p.A.length),(2,Ta p (.hd 3 0 p.A.length) (.hd 4 0 D.length) (.hd 5 0 x.2.1.length) p.A.length),(1,JJ O),(0,JJ x.2.2)]⟩) (fun x=>(∃r,x.2.2=itI p D O r)/\(x.1=false->rdI p D O x.2.2=x.2.2/\x.2.1=usB p x.2.2)) (fun x=>2*(400-tot x.2.2)+x.1.toNat) (true,[],List.replicate p.A.length []) (Le.mk [(5,JJ [])] (by simp[Chunk.new0,JJ];rfl) (by simp) (by simp) (.r (.r (.cons (.p (Sub.tt rfl)) .nil))) (.new x8l (.cons rfl (.refl _) (.cons rfl (.refl _) (.cons rfl (.obj (.r (.r (.r (.cons (.nil x8l) (.r (.r .nil))))))) (.cons rfl (.refl _) (.cons rfl (.refl _) .nil))))))) ⟨⟨0,rfl⟩,fun h=>by cases h⟩ ?_;rintro⟨m,U,I⟩ ⟨⟨q,hq⟩,hm⟩;simp only at hq hm⊢;have hI:=Kk p D O q;rw[<-hq]at hI;have H:p.A.length=(O.map eStrs).length:=by rw[x8b,J.len]
      have hKD:D.length=(D.map eStrs).length:=by rw[x8b]
      cases m with
      | false=>
        obtain⟨Y,rfl⟩:=hm rfl;have hbk:=hBk I ⟨q,hq⟩ Y;have c:p.A.length=(I.map eStrs).length:=by rw[x8b,hI.len]
        have hKU:(usB p I).length=((usB p I).map eStrs).length:=by rw[x8b]
        conv=>whnf
        repeat' (refine Br.ff ?_;conv=>whnf)
        all_goals first
         |exact⟨_,x0f rfl (.hd (z0l some Zi) Wv) (.hd rfl hKD) (.hd rfl hKU) (.hd rfl c) (.hd rfl H),fun _=>by rw[hbk],fun h=>by cases h⟩
      | true=>
        have hLl:((sheetOf p).l.map fun i=>AV.agg i.cells).length=(sheetOf p).l.length:=x8b _;obtain⟨_,_,_,hsl,_⟩:=QY p;have hUl:(usB p I).length=(sheetOf p).l.length:=x8b _;have c:p.A.length=(I.map eStrs).length:=by rw[x8b,hI.len]
        conv=>whnf
        repeat' ((first|(refine gX ?_;intros)|refine Br.tt ?_)<;>conv=>whnf)
        refine lJ (fun k:Nat=>⟨[(1,.p (.ip p.cells)),(3,.ptr 2 0),(10,.p .ff),(124,.p (UD (sheetOf p).l)),(125,.p (.int .i64 ((sheetOf p).l.map fun i=>AV.agg i.cells).length)),(126,.j k)],[(5,JJ ((usB p I).take k)),(4,JJ D),(3,Dv p p.A.length),(2,Ta p (.hd 3 0 p.A.length) (.hd 4 0 D.length) (.hd 5 0 k) p.A.length),(1,JJ O),(0,JJ I)]⟩) (fun k=>k<=(sheetOf p).l.length) (fun k=>(sheetOf p).l.length-k) 0 (Le.trans (s':=⟨[(1,.p (.ip p.cells)),(3,.ptr 2 0),(10,.p .ff),(124,.p (UD (sheetOf p).l)),(125,.p (.int .i64 ((sheetOf p).l.map fun i=>AV.agg i.cells).length)),(126,.j (0:Nat))],[(4,JJ D),(3,Dv p p.A.length),(2,Ta p (.hd 3 0 p.A.length) (.hd 4 0 D.length) (.p .nils) p.A.length),(1,JJ O),(0,JJ I)]⟩) (lE) (Le.mk [(5,JJ [])] (by simp[Chunk.new0,JJ];rfl) (by simp) (by simp) (.r (.r (.r (.r (.r (.r .nil)))))) (.new x8l (.cons rfl (.refl _) (.cons rfl (.refl _) (.cons rfl (.obj (.r (.r (.r (.cons (.nil x8l) (.r (.r .nil))))))) (.cons rfl (.refl _) (.cons rfl (.refl _) .nil)))))))) (x8i _) ?_;intro k hk;rcases x8o k (sheetOf p).l.length with n|n;rotate_left 1
        ·obtain rfl:k=(sheetOf p).l.length:=by omega
         have M:(rdI p D O I).length=I.length:=by rw[hI.len];unfold rdI niB;rw[x8b,z2q]
         have hIn:=hI.len;rw[show(usB p I).take (sheetOf p).l.length=usB p I from x9u (by omega)];have hu:∀d∈usB p I,d.Pairwise ltT/\d.length<=1000000000:=fun d Q=>by
          obtain⟨it,hi,rfl⟩:=x8c.1 Q;have v:=Gk (Xk (bkI p I) it.s);have V:=Cr b hI (t:=it.s) (by rw[<-DR];exact x8c.2 ⟨_,hi,rfl⟩);exact⟨KG _,by omega⟩
         conv=>whnf
         repeat' ((first|(refine iM fun _=>?_)|(apply bD<;>intro _<;>try omega))<;>conv=>whnf)
         have hW:rdI p D O I=itI p D O (q+1):=by rw[hq];rfl
         refine q7p b J G hUl Q hu hIn (M.trans hIn) x1m fun m s u hle=>?_;conv=>whnf
         refine⟨(m,usB p I,rdI p D O I),⟨⟨q+1,hW⟩,fun h=>?_⟩,?_,hle⟩
         ·simp only at h⊢;rw[h]at u;have v:rdI p D O I=I:=by simpa using u
          rw[v];exact⟨v,rfl⟩
         ·simp only;have hOW:tot (rdI p D O I)<=400:=(q4o p D (usB p I) O).tot b;cases m with
          | true=>
            have v:rdI p D O I≠I:=by simpa using u
            have V:=SQ b (D:=D) (O:=O) (k:=q) (by rw[<-hW,<-hq];exact v);rw[<-hW,<-hq]at V;simp only[z4g];omega
          | false=>
            have v:rdI p D O I=I:=by simpa using u
            rw[v];simp only[z4g,Bool.toNat_false];omega
        have y:(sheetOf p).l[k].s∈WI p:=by rw[<-DR];exact x8c.2 ⟨_,x9w n,rfl⟩
        have g:k=(((usB p I).take k).map eStrs).length:=by rw[x8b,x9s];omega
        have B:=Hh ⟨sheetOf p,wysB p,D,(usB p I).take k,I,O⟩ (sheetOf p).l[k].s (fun h4=>hI.use b rfl rfl y h4);rw[OJ (p:=p) (I:=I) rfl rfl]at B;have hd1:SpecH prog 73 ([AV.ip (Book.cells ⟨sheetOf p,wysB p,D,(usB p I).take k,I,O⟩),.agg (sheetOf p).l[k].s.cells].map .p) [] (OneRow (H9 (Xk (bkI p I) (sheetOf p).l[k].s)) (Xk (bkI p I) (sheetOf p).l[k].s=[])):=B;have hdl:=Cr b hI y;have F:=R7 (L:=usB p I) (k:=k) (by omega) (o:=WB (Xk (bkI p I) (sheetOf p).l[k].s)) (by unfold usB;rw[z2l]);generalize hds:Xk (bkI p I) (sheetOf p).l[k].s=ds at*
        clear B;conv=>whnf
        repeat' ((first|refine dA ?_|(refine gX ?_;intros)|refine pA 1 24 g ?_|(apply bD<;>intro _<;>try omega)|refine q2x 6 rfl hd1 (.cons (x0f rfl (.hd (z0l some Zi) Wv) (.hd rfl hKD) (.hd rfl g) (.hd rfl c) (.hd rfl H)) (.cons (.p (Sub.refl _)) .nil)) (fun z=>?_) ?_|(refine CallK.nil 6 9 1 rfl (.row .nil) ?_;refine cH [(1000,6)] 0 (KF [] (by simp)) ?_)|(refine cH [(1000,6)] 0 (KF ds (by omega)) ?_)|refine x9p ?_ ?_)<;>conv=>whnf)
        all_goals first
         |exact⟨k+1,n,by omega,Le.of_eq (by rw[F,z];rfl)⟩
         |exact⟨k+1,n,by omega,Le.of_eq (by rw[F];rfl)⟩
    | true =>
      have hLl:((sheetOf p).l.map fun i=>AV.agg i.cells).length=(sheetOf p).l.length:=x8b _;obtain⟨_,_,_,hsl,_⟩:=QY p;conv=>whnf
      repeat' ((first|(refine gX ?_;intros)|refine Br.tt ?_)<;>conv=>whnf)
      refine lJ (fun k:Nat=>⟨[(1,.p (.ip p.cells)),(3,.ptr 2 0),(5,.p .ff),(62,.p (UD (sheetOf p).l)),(63,.p (.int .i64 ((sheetOf p).l.map fun i=>AV.agg i.cells).length)),(64,.j k)],[(4,JJ ((dfB p O).take k)),(3,Dv p p.A.length),(2,Ta p (.hd 3 0 p.A.length) (.hd 4 0 k) (.p .nils) p.A.length),(1,JJ O),(0,JJ (List.replicate p.A.length []))]⟩) (fun k=>k<=(sheetOf p).l.length) (fun k=>(sheetOf p).l.length-k) 0 (Le.trans (s':=⟨[(1,.p (.ip p.cells)),(3,.ptr 2 0),(5,.p .ff),(62,.p (UD (sheetOf p).l)),(63,.p (.int .i64 ((sheetOf p).l.map fun i=>AV.agg i.cells).length)),(64,.j (0:Nat))],[(3,Dv p p.A.length),(2,Ta p (.hd 3 0 p.A.length) (.p .nils) (.p .nils) p.A.length),(1,JJ O),(0,JJ (List.replicate p.A.length []))]⟩) (lE) (Le.mk [(4,JJ [])] (by simp[Chunk.new0,JJ];rfl) (by simp) (by simp) (.r (.r (.r (.r (.r (.r .nil)))))) (.new x8l (.cons rfl (.refl _) (.cons rfl (.obj (.r (.r (.cons (.nil x8l) (.r (.r (.r .nil))))))) (.cons rfl (.refl _) (.cons rfl (.refl _) .nil))))))) (x8i _) ?_;intro k hk;rcases x8o k (sheetOf p).l.length with n|n;rotate_left 1
      ·obtain rfl:k=(sheetOf p).l.length:=by omega
       have G:=T6 p O;have M:(rdO p O).length=O.length:=by rw[J.len];unfold rdO otB;rw[x8b,z2q]
       have hOn:=J.len;rw[show(dfB p O).take (sheetOf p).l.length=dfB p O from x9u (by omega)];have Q:∀d∈dfB p O,d.length<=1000:=fun d Q=>by
        obtain⟨it,hi,rfl⟩:=x8c.1 Q;have v:=Gk (FM (bkO p O) it.s);have V:=Bd b J (t:=it.s) (by rw[<-DR];exact x8c.2 ⟨_,hi,rfl⟩);omega
       conv=>whnf
       repeat' ((first|(refine iM fun _=>?_)|(apply bD<;>intro _<;>try omega))<;>conv=>whnf)
       refine lJ (fun x:Nat×Bool=>⟨[(1,.p (.ip p.cells)),(3,.ptr 2 0),(5,.p (.bool x.2)),(85,.p (.int .i64 (p.A.map fun f=>AV.agg f.cells).length)),(86,.j x.1)],[(4,JJ (dfB p O)),(3,Dv p p.A.length),(2,Ta p (.hd 3 0 p.A.length) (.hd 4 0 (sheetOf p).l.length) (.p .nils) p.A.length),(1,JJ ((rdO p O).take x.1++O.drop x.1)),(0,JJ (List.replicate p.A.length []))]⟩) (fun x=>x.1<=p.A.length/\x.2 = !decide ((rdO p O).take x.1=O.take x.1)) (fun x=>p.A.length-x.1) (0,false) (lE (hsl:=.r (.r (.cons (.p (Sub.ff rfl)) (.r (.r .nil)))))) ⟨x8i _,rfl⟩ ?_;rintro⟨k,m⟩ ⟨hk1,u⟩;simp only at hk1 u⊢;rcases x8o k p.A.length with n|n;rotate_left 1
       ·obtain rfl:k=p.A.length:=by omega
        rw[x9u (by omega),x9u (by omega)]at u;rw[x9u (by omega),x9j (by omega),z0k];have hW:rdO p O=itO p (r+1):=by rw[hr];rfl
        conv=>whnf
        repeat' (apply bD<;>intro _<;>first|omega|conv=>whnf)
        refine⟨(m,dfB p O,rdO p O),⟨⟨r+1,hW⟩,fun h=>?_⟩,?_,lE (hH:=.cons rfl (.refl _) (.cons rfl (.refl _) (.cons rfl (.of_eq (by rw[G])) (.cons rfl (.refl _) (.cons rfl (.refl _) .nil)))))⟩
        ·simp only at h⊢;rw[h]at u;have v:rdO p O=O:=by simpa using u
         rw[v];exact⟨v,rfl⟩
        ·simp only;have hOW:=(q5x p (dfB p O)).tot b;have hOW:tot (rdO p O)<=400:=hOW;cases m with
         | true=>
           have v:rdO p O≠O:=by simpa using u
           have V:=SW (p:=p) (k:=r) (by rw[<-hW,<-hr];exact v);rw[<-hW,<-hr]at V;simp only[z4g];omega
         | false=>
           have v:rdO p O=O:=by simpa using u
           rw[v];simp only[z4g,Bool.toNat_false];omega
       have E:p.A[k]?=some p.A[k]:=by simp
       have hpk:=WQ E;have hWk:wysB p=(wysB p):=rfl;have hout:=Hg ⟨sheetOf p,wysB p,dfB p O,[],List.replicate p.A.length [],(rdO p O).take k++O.drop k⟩ p rfl b k p.A[k] E (by show(wysB p)[k]?=_;rw[TI n,hpk]) G Q;have hrow:(rdO p O)[k]'(by omega)=WB (Ro p k p.A[k] (dfB p O) (itsOf p k p.A[k])):=by
        unfold rdO otB;rw[z2l,List.getElem_range];unfold otA;rw[hpk]
       have hol:(Ro p k p.A[k] (dfB p O) (itsOf p k p.A[k])).length<=1000000000:=by
        have v:=SC (p:=p) (i:=k) (f:=p.A[k]) Q (itsOf p k p.A[k]);have V:(itsOf p k p.A[k]).length<=200:=by
         obtain⟨_,_,_,_,hsp⟩:=QY p;obtain⟨_,_,h3,h4⟩:=hsp k _ E;have h5:=z0l List.length h4;rw[z1d,x9s]at h5;have e1:itL (k:Nat) 0 (-1) 0 (offN p.A k) p.A[k].body=itsOf p k p.A[k]:=rfl;rw[e1]at h5;omega
        have h3:(itsOf p k p.A[k]).length*1000<=200*1000:=z0m _ V;omega
       have hout1:SpecH prog 71 ([AV.ip (Book.cells ⟨sheetOf p,wysB p,dfB p O,[],List.replicate p.A.length [],(rdO p O).take k++O.drop k⟩),.int .i64 k].map .p) [] (OneRow (H9 (Ro p k p.A[k] (dfB p O) (itsOf p k p.A[k]))) False):=hout;have R:=OU (W:=rdO p O) (O:=O) (k:=k) (by omega) M;have hat:=q5g (W:=rdO p O) (O:=O) (k:=k) (by omega) M;have hln:=OV (W:=rdO p O) (O:=O) (k:=k) (by omega) M;have C:=q5h (W:=rdO p O) (O:=O) (k:=k) (by omega) (by omega);have hEq:=WR ((rdO p O)[k]'(by omega)) (O[k]'(by omega));rw[hrow]at hEq R C;have g:(sheetOf p).l.length=((dfB p O).map eStrs).length:=by rw[x8b];omega
       have H:p.A.length=(((rdO p O).take k++O.drop k).map eStrs).length:=by rw[hln];omega
       have c:p.A.length=((List.replicate p.A.length ([]:List Str)).map eStrs).length:=by rw[x8b,z0b]
       clear hout hrow;generalize Ro p k p.A[k] (dfB p O) (itsOf p k p.A[k])=ol at*
       generalize hdq:decide (WB ol=O[k])=dq at hEq C;have hdk:decide ((rdO p O).take k=O.take k) = !m:=by rw[u,Bool.not_not]
       rw[hdk]at C;cases m<;>cases dq;all_goals
        conv=>whnf
        repeat' ((first|refine gX ?_|refine iO k ?_|refine lO hat ?_|refine cP hEq ?_|refine sO (eStrs (WB ol)) hat ?_|((first|apply bD|apply bB)<;>intro _<;>try omega)|refine q2x 5 rfl hout1 (.cons (x0f rfl (.hd (z0l some Zi) Wv) (.hd rfl g) (.p Sub.nils) (.hd rfl c) (.hd rfl H)) (.cons (.p (Sub.refl _)) .nil)) (fun z=>z.elim) ?_|(refine cH [(1000,5)] 0 (KF ol hol) ?_))<;>conv=>whnf)
       all_goals first
        |exact absurd (show false=true by assumption) (by decide)
        |exact absurd (show true=false by assumption) (by decide)
        |exact⟨(k+1,true),⟨n,by simp only;rw[C];rfl⟩,by simp only;omega,lE (hsl:=.r (.r (.cons (.p (Sub.tt rfl)) (.r (.r .nil))))) (hH:=.cons rfl (.refl _) (.cons rfl (.refl _) (.cons rfl (.refl _) (.cons rfl (.of_eq (z0l (Chunk.own 22 1) R)) (.cons rfl (.refl _) .nil)))))⟩
        |exact⟨(k+1,true),⟨n,by simp only;rw[C];rfl⟩,by simp only;omega,lE (hH:=.cons rfl (.refl _) (.cons rfl (.refl _) (.cons rfl (.refl _) (.cons rfl (.of_eq (z0l (Chunk.own 22 1) R)) (.cons rfl (.refl _) .nil)))))⟩
        |exact⟨(k+1,false),⟨n,by simp only;rw[C];rfl⟩,by simp only;omega,lE (hH:=.cons rfl (.refl _) (.cons rfl (.refl _) (.cons rfl (.refl _) (.cons rfl (.of_eq (z0l (Chunk.own 22 1) R)) (.cons rfl (.refl _) .nil)))))⟩
        |exact⟨(k+1,false),⟨n,by simp only;rw[C];rfl⟩,by simp only;omega,lE (hsl:=.r (.r (.cons (.p (Sub.ff rfl)) (.r (.r .nil))))) (hH:=.cons rfl (.refl _) (.cons rfl (.refl _) (.cons rfl (.refl _) (.cons rfl (.of_eq (z0l (Chunk.own 22 1) R)) (.cons rfl (.refl _) .nil)))))⟩
      have y:(sheetOf p).l[k].s∈WI p:=by rw[<-DR];exact x8c.2 ⟨_,x9w n,rfl⟩
      have G:=T6 p O;have g:k=(((dfB p O).take k).map eStrs).length:=by rw[x8b,x9s];omega
      have H:p.A.length=(O.map eStrs).length:=by rw[x8b,J.len]
      have c:p.A.length=((List.replicate p.A.length ([]:List Str)).map eStrs).length:=by rw[x8b,z0b]
      have B:=Hk ⟨sheetOf p,wysB p,(dfB p O).take k,[],List.replicate p.A.length [],O⟩ (sheetOf p).l[k].s (fun h4=>J.call b rfl rfl y h4);rw[Ea rfl rfl]at B;have hd1:SpecH prog 70 ([AV.ip (Book.cells ⟨sheetOf p,wysB p,(dfB p O).take k,[],List.replicate p.A.length [],O⟩),.agg (sheetOf p).l[k].s.cells].map .p) [] (OneRow (H9 (FM (bkO p O) (sheetOf p).l[k].s)) (FM (bkO p O) (sheetOf p).l[k].s=[])):=B;have hdl:=Bd b J y;have F:=R7 (L:=dfB p O) (k:=k) (by omega) (o:=WB (FM (bkO p O) (sheetOf p).l[k].s)) (by unfold dfB;rw[z2l]);generalize hds:FM (bkO p O) (sheetOf p).l[k].s=ds at*
      clear B;conv=>whnf
      repeat' ((first|refine dA ?_|(refine gX ?_;intros)|refine pA 1 24 g ?_|(apply bD<;>intro _<;>try omega)|refine q2x 5 rfl hd1 (.cons (x0f rfl (.hd (z0l some Zi) Wv) (.hd rfl g) (.p Sub.nils) (.hd rfl c) (.hd rfl H)) (.cons (.p (Sub.refl _)) .nil)) (fun z=>?_) ?_|(refine CallK.nil 5 9 1 rfl (.row .nil) ?_;refine cH [(1000,5)] 0 (KF [] (by simp)) ?_)|(refine cH [(1000,5)] 0 (KF ds (by omega)) ?_)|refine x9p ?_ ?_)<;>conv=>whnf)
      all_goals first
       |exact⟨k+1,n,by omega,Le.of_eq (by rw[F,z];rfl)⟩
       |exact⟨k+1,n,by omega,Le.of_eq (by rw[F];rfl)⟩
def Gj(p:Pg)(n:Str):Int:=idxF (fun f=>f.name==n) p.A
noncomputable def outsN(p:Pg)(n:Str):List Str:=if QP p=true/\0<=Gj p n then(bookOf p).M.getD (Gj p n).toNat []else []
noncomputable def I6(p:Pg)(n:Str):List Str:=if QP p=true/\0<=Gj p n then(bookOf p).ins.getD (Gj p n).toNat []else []
noncomputable def T5(p:Pg)(id:Int):List Str:=if QP p=true/\1<=id/\id<=(sheetOf p).l.length then(bookOf p).N.getD (id-1).toNat []else []
noncomputable def TR(p:Pg)(id:Int):List Str:=if QP p=true/\1<=id/\id<=(sheetOf p).l.length then(bookOf p).P.getD (id-1).toNat []else []
theorem IT{n:Str}(h:0<=Gj p n):(Gj p n).toNat<p.A.length:=by
 unfold Gj idxF at h⊢;cases i:p.A.any fun f=>f.name==n with
 | true=>
   rw[x9z];obtain⟨x,j,l⟩:=z0g.1 i;have:=z3g (p:=fun f:Pr=>f.name==n) ⟨x,j,l⟩;simpa using this
 | false=>
   rw[i,x9k]at h;omega
def Pl(h:k<O.length):(O.map eStrs)[k]?=some (eStrs (O.getD k [])):=by
 rw[x9x,x8n,x8p h];rfl
theorem Fc(p:Pg)(d:Fit p)(n:Str):aP 22 [.agg p.cells,.str n] (eStrs (outsN p n)):=by
 refine sC Np func22 ?_;conv=>whnf
 have y:=Yc p d;cases q:QP p with
 | false=>
   have e:outsN p n=[]:=by unfold outsN;rw[if_neg (by rw[q];simp)]
   rw[e];have j:=y.mono (R':=fun r=>r=.nilp) fun r x=>x.2 q;repeat' (refine cP j ?_;conv=>whnf)
   all_goals first
    |contradiction
    |exact⟨_,.p Sub.nils,rfl⟩
 | true=>
   have j:=y.mono (R':=fun r=>r=.ip (bookOf p).cells) fun r x=>x.1 q;have c:=KL q;have z:=(Eg q).1.len;have g:(bookOf p).s.p=p:=by rw[c.s];exact(QY p).1
   have t:=XE (bookOf p).s n;rw[g]at t;have m:aP 33 [.ip (bookOf p).s.cells,.str n] (.int .i64 (Gj p n)):=t;have v:=fun h=>IT (p:=p) (n:=n) h;have u:=fun h=>Pl (O:=(bookOf p).M) (k:=(Gj p n).toNat) (by rw[z];exact v h);have e:outsN p n=if 0<=Gj p n then(bookOf p).M.getD (Gj p n).toNat []else []:=by
    unfold outsN;by_cases l:0<=Gj p n
    ·rw[if_pos ⟨q,l⟩,if_pos l]
    ·rw[if_neg (fun h=>l h.2),if_neg l]
   rw[e];generalize Gj p n=i at*
   generalize bookOf p=b at*
   by_cases l:0<=i
   ·rw[if_pos l];have u:=u l;repeat' ((first|refine dA ?_|refine cP j ?_|refine cP m ?_|refine iT u ?_|(apply bD<;>intro _<;>try omega))<;>conv=>whnf)
    all_goals first
     |contradiction
     |exact RetK.p rfl
     |exact⟨_,.p (Sub.refl _),rfl⟩
   ·rw[if_neg l];repeat' ((first|refine cP j ?_|refine cP m ?_|(apply bD<;>intro _<;>try omega))<;>conv=>whnf)
    all_goals first
     |contradiction
     |exact⟨_,.p Sub.nils,rfl⟩
theorem Ly(p:Pg)(d:Fit p)(n:Str):aP 20 [.agg p.cells,.str n] (eStrs (I6 p n)):=by
 refine sC RH func20 ?_;conv=>whnf
 have y:=Yc p d;cases q:QP p with
 | false=>
   have e:I6 p n=[]:=by unfold I6;rw[if_neg (by rw[q];simp)]
   rw[e];have j:=y.mono (R':=fun r=>r=.nilp) fun r x=>x.2 q;repeat' (refine cP j ?_;conv=>whnf)
   all_goals first
    |contradiction
    |exact⟨_,.p Sub.nils,rfl⟩
 | true=>
   have j:=y.mono (R':=fun r=>r=.ip (bookOf p).cells) fun r x=>x.1 q;have c:=KL q;have z:=(Eg q).2.len;have g:(bookOf p).s.p=p:=by rw[c.s];exact(QY p).1
   have t:=XE (bookOf p).s n;rw[g]at t;have m:aP 33 [.ip (bookOf p).s.cells,.str n] (.int .i64 (Gj p n)):=t;have v:=fun h=>IT (p:=p) (n:=n) h;have u:=fun h=>Pl (O:=(bookOf p).ins) (k:=(Gj p n).toNat) (by rw[z];exact v h);have e:I6 p n=if 0<=Gj p n then(bookOf p).ins.getD (Gj p n).toNat []else []:=by
    unfold I6;by_cases l:0<=Gj p n
    ·rw[if_pos ⟨q,l⟩,if_pos l]
    ·rw[if_neg (fun h=>l h.2),if_neg l]
   rw[e];generalize Gj p n=i at*
   generalize bookOf p=b at*
   by_cases l:0<=i
   ·rw[if_pos l];have u:=u l;repeat' ((first|refine dA ?_|refine cP j ?_|refine cP m ?_|refine iT u ?_|(apply bD<;>intro _<;>try omega))<;>conv=>whnf)
    all_goals first
     |contradiction
     |exact RetK.p rfl
     |exact⟨_,.p (Sub.refl _),rfl⟩
   ·rw[if_neg l];repeat' ((first|refine cP j ?_|refine cP m ?_|(apply bD<;>intro _<;>try omega))<;>conv=>whnf)
    all_goals first
     |contradiction
     |exact⟨_,.p Sub.nils,rfl⟩
theorem A6(p:Pg)(y:Fit p)(id:Int):aP 42 [.agg p.cells,.int .i64 id] (eStrs (T5 p id)):=by
 refine sC Nb func42 ?_;conv=>whnf
 have u:=Yc p y;cases m:QP p with
 | false=>
   have e:T5 p id=[]:=by unfold T5;rw[if_neg (by rw[m];simp)]
   rw[e];have i:=u.mono (R':=fun r=>r=.nilp) fun r q=>q.2 m;repeat' (refine cP i ?_;conv=>whnf)
   all_goals first
    |contradiction
    |exact⟨_,.p Sub.nils,rfl⟩
 | true=>
   have i:=u.mono (R':=fun r=>r=.ip (bookOf p).cells) fun r q=>q.1 m;have v:=KL m;have z:(bookOf p).N.length=(sheetOf p).l.length:=by rw[v.N];exact x8b _
   have x:=(XQ m).2.2;obtain⟨_,_,_,hsl,_⟩:=QY p;have hH:aP 61 [.ip (bookOf p).s.cells,.int .i64 id] (.bool (decide (1<=id)&&decide (id<=(sheetOf p).l.length))):=by
    have t:=LD (bookOf p).s id;rw[show(bookOf p).s.l=(sheetOf p).l by rw[v.s]]at t;exact t
   have n:=fun h=>Pl (O:=(bookOf p).N) (k:=(id-1).toNat) h;have e:T5 p id=if 1<=id/\id<=(sheetOf p).l.length then(bookOf p).N.getD (id-1).toNat []else []:=by
    unfold T5;by_cases j:1<=id/\id<=(sheetOf p).l.length
    ·rw[if_pos ⟨m,j⟩,if_pos j]
    ·rw[if_neg (fun h=>j h.2),if_neg j]
   rw[e];generalize(sheetOf p).l.length=sl at*
   generalize bookOf p=b at*
   by_cases j:1<=id/\id<=(sl:Int)
   ·rw[if_pos j];rw[show(decide (1<=id)&&decide (id<=(sl:Int)))=true by simp[j]]at hH;have n:=n (by omega);repeat' ((first|refine wI ?_|refine cP i ?_|refine cP hH ?_|refine iT n ?_|(apply bN<;>intro _))<;>conv=>whnf)
    all_goals first
     |contradiction
     |exact RetK.p rfl
     |exact⟨_,.p (Sub.refl _),rfl⟩
   ·rw[if_neg j];rw[show(decide (1<=id)&&decide (id<=(sl:Int)))=false by rw[z2s,z1u,z1u];omega]at hH;repeat' ((first|refine cP i ?_|refine cP hH ?_|(apply bN<;>intro _))<;>conv=>whnf)
    all_goals first
     |contradiction
     |exact⟨_,.p Sub.nils,rfl⟩
theorem A7(p:Pg)(y:Fit p)(id:Int):aP 43 [.agg p.cells,.int .i64 id] (eStrs (TR p id)):=by
 refine sC Nn func43 ?_;conv=>whnf
 have u:=Yc p y;cases m:QP p with
 | false=>
   have e:TR p id=[]:=by unfold TR;rw[if_neg (by rw[m];simp)]
   rw[e];have i:=u.mono (R':=fun r=>r=.nilp) fun r q=>q.2 m;repeat' (refine cP i ?_;conv=>whnf)
   all_goals first
    |contradiction
    |exact⟨_,.p Sub.nils,rfl⟩
 | true=>
   have i:=u.mono (R':=fun r=>r=.ip (bookOf p).cells) fun r q=>q.1 m;have v:=KL m;have z:(bookOf p).P.length=(sheetOf p).l.length:=by rw[v.P];exact x8b _
   have x:=(XQ m).2.2;obtain⟨_,_,_,hsl,_⟩:=QY p;have hH:aP 61 [.ip (bookOf p).s.cells,.int .i64 id] (.bool (decide (1<=id)&&decide (id<=(sheetOf p).l.length))):=by
    have t:=LD (bookOf p).s id;rw[show(bookOf p).s.l=(sheetOf p).l by rw[v.s]]at t;exact t
   have n:=fun h=>Pl (O:=(bookOf p).P) (k:=(id-1).toNat) h;have e:TR p id=if 1<=id/\id<=(sheetOf p).l.length then(bookOf p).P.getD (id-1).toNat []else []:=by
    unfold TR;by_cases j:1<=id/\id<=(sheetOf p).l.length
    ·rw[if_pos ⟨m,j⟩,if_pos j]
    ·rw[if_neg (fun h=>j h.2),if_neg j]
   rw[e];generalize(sheetOf p).l.length=sl at*
   generalize bookOf p=b at*
   by_cases j:1<=id/\id<=(sl:Int)
   ·rw[if_pos j];rw[show(decide (1<=id)&&decide (id<=(sl:Int)))=true by simp[j]]at hH;have n:=n (by omega);repeat' ((first|refine wI ?_|refine cP i ?_|refine cP hH ?_|refine iT n ?_|(apply bN<;>intro _))<;>conv=>whnf)
    all_goals first
     |contradiction
     |exact RetK.p rfl
     |exact⟨_,.p (Sub.refl _),rfl⟩
   ·rw[if_neg j];rw[show(decide (1<=id)&&decide (id<=(sl:Int)))=false by rw[z2s,z1u,z1u];omega]at hH;repeat' ((first|refine cP i ?_|refine cP hH ?_|(apply bN<;>intro _))<;>conv=>whnf)
    all_goals first
     |contradiction
     |exact⟨_,.p Sub.nils,rfl⟩
section
variable {P:Program}{T:Tab}{N:Nat}{σ:Mem}{β:Lab}{a:Act}{w:World}{o:Oper}{K:St->Prop}{s:St}
def TY(e:TypeId){sz n:Nat}{cs:List LV}{vs:Array Value}(t:(execOp a.eval o).run P w=.ok (.value (.slice (some ⟨w.heap.size,0,none⟩) n n)) (w.alloc (.cells vs e)))(C:Rel N σ β s a w)(y:RepC σ β cs vs.toList)(g:∀k,WZ k s=true->LV.free.freeAll k cs=true)(i:n<=maxLen)(h:HT 60 0 s fun k=>setD N s.sl o.dst (.hd k 0 n) fun sl=>K ⟨sl,(k,.obj e cs)::s.H⟩):Ra P N σ β a w s o K:=by
 intro Q;obtain⟨k,z,h⟩:=YG h;have v:=y.set (k:=k) (some ⟨w.heap.size,n,sz,[],i⟩) (g k z);have m:(Chunk.obj e cs).holds σ (β.set k (some ⟨w.heap.size,n,sz,[],i⟩)) (w.alloc (.cells vs e)) k:=
  ⟨⟨w.heap.size,n,sz,[],i⟩,vs,by simp[Lab.set],heap_alloc_new w _,by simpa using y.1,fun j l A=>by
    obtain⟨u,b,c⟩:=v.2 j l A;exact⟨u,by simpa using b,c⟩⟩
 obtain⟨x,B⟩:=C.new z rfl rfl m;have q:=RepL.hd (σ:=σ) (β:=β.set k (some ⟨w.heap.size,n,sz,[],i⟩)) k 0 n ⟨w.heap.size,n,sz,[],i⟩ 0 (by simp[Lab.set]) (by simp) (.inl (by simp));simp only[Nat.sub_zero]at q;obtain⟨sl,d,r⟩:=x.setD q h;exact VT t ⟨σ,_,_,d,r,B⟩
theorem Mt{k:Nat}{place:Nat->Option (Nat×Nat)}:∀{ps:List (Nat×LV)}{cells out:List LV},Hy place cells ps=some out->(∀l∈cells,l.free k=true)->(∀x∈ps,x.2.free k=true)->∀l∈out,l.free k=true
 | [],cells,out,h,hc,_=>by
   simp only[Hy,z2w]at h;subst h;exact hc
 | (i,v)::r,cells,out,h,hc,hp=>by
   simp only[Hy]at h;split at h
   .cases h
   .rename_i off size q;split at h
    .cases h
    .rename_i vs m;cases n:(vs.length==size&&Nat.ble (off+size) cells.length)with
     |false=>rw[n]at h;cases h
     | true=>
       rw[n,x9z]at h;refine Mt h (fun l j=>?_) fun x t=>hp x (x8r _ t);rcases x8e.1 j with j|j
       .rcases x8e.1 j with j|j
        .exact hc l (z4e j)
        .exact DG.1 (Qj m (hp (i,v) x8l)) l j
       .exact hc l (List.mem_of_mem_drop j)
theorem E3(hT:TabOK P T){t:TypeId}{n:Nat}{parts:Array (Nat×Operand)}(c:o.op=.buildSlice t n parts){it:TyI}(ht:T.get t=some it){e:TypeId}(V:it.desc=.slice e){m:TyI}(F:T.get e=some m)(hsm:n*m.size<=16777216)(d:0<m.size){out:List LV}(u:Hy (fun i=>some (i*m.size,m.size)) (List.replicate (n*m.size) (.p .any)) (parts.toList.map fun x=>(x.1,QR s.sl x.2))=some out)(h:HT 60 0 s fun k=>setD N s.sl o.dst (.hd k 0 n) fun sl=>K ⟨sl,(k,.obj e out)::s.H⟩):OpK P N s o K:=by
 have Y:∀k,WZ k s=true->LV.free.freeAll k out=true:=fun k Z=>by
  refine DG.2 (Mt u (fun l hl=>by rw[z2g hl];rfl) fun x b=>?_);obtain⟨y,_,rfl⟩:=x8c.1 b;exact V9 Z y.2
 refine⟨fun σ β a w R=>?_⟩;have z:=hT.of ht;rw[V]at z;have v:=hT _ _ F;have g:∀(j:Nat)(x:Nat×LV)(y:Nat×Value),(parts.toList.map fun x=>(x.1,QR s.sl x.2))[j]?=some x->(parts.toList.map fun x=>(x.1,a.eval x.2))[j]?=some y->RepL σ β x.2 y.2:=fun j x y b L=>by
  rw[x9x]at b L;cases Q:parts.toList[j]?with
  |none=>rw[Q]at b;cases b
  |some q=>rw[Q]at b L;cases b;cases L;exact QW R.G _
 let zs:Array Value:=(Array.range (n*m.size)).map (m.zero.cells[· % m.zero.cells.size]!);obtain⟨cs,E,J⟩:=Zy (σ:=σ) (β:=β) (place:=fun i=>some (i*m.size,m.size)) (placeL:=fun i=>some (i*m.size,m.size)) (fun _ _ h=>h) _ (parts.toList.map fun x=>(x.1,a.eval x.2)) _ zs out (by simp) g (DI (n*m.size) zs.toList (by simp[zs])) u;have A:(execOp a.eval o).run P w=.ok (.value (.slice (some ⟨w.heap.size,0,none⟩) n n)) (w.alloc (.cells cs e)):=by
  have r:Instr.fill (fun i=>some (i*m.size,m.size)) zs ((parts.map fun(i,x)=>(i,a.eval x)).toList)=some cs:=by
   rw[<-E];congr 1;simp
  by_cases B:n*m.size=0
  ·have hz:zs=#[]:=by apply Array.eq_empty_of_size_eq_zero;simp[zs,B]
   have M:zs=(Array.range (n*m.size)).map ((#[]:Array Value)[· % (#[]:Array Value).size]!):=by rw[hz,B];simp[Array.range_zero']
   have:¬n*m.size>16777216:=by omega
   rw[M]at r;simp only[execOp,c,Instr.buildSlice,Sem.run_bind,run_underlying z,Result.andThen_ok,v.sizeOf,Nat.reducePow,if_neg this,if_pos B,Sem.run_pure,r,newRow,run_newObj];rfl
  ·have:¬n*m.size>16777216:=by omega
   simp only[execOp,c,Instr.buildSlice,Sem.run_bind,run_underlying z,Result.andThen_ok,v.sizeOf,Nat.reducePow,if_neg this,if_neg B,v.zeroValue,Sem.run_pure,zs]at r⊢;simp only[r,Sem.run_bind,newRow,run_newObj,Result.andThen_ok,Sem.run_pure];rfl
 have C:n<=maxLen:=by
  have:n*1<=n*m.size:=Nat.mul_le_mul_left _ d;simp only[maxLen];omega
 exact TY (sz:=m.size) e A R J Y C h
end
def S2(n:Nat){es:List AV}{sz:Nat}{out:List LV}{j i:Prop}(r:es.length=n)(q:(es.all fun x=>x.cells.length==sz)=true)(m:out=(es.flatMap AV.cells).map .p)(l:i):BsK es sz out j i:=.own (fun x h=>by simpa using z0p.1 q x h) m l
def rwS(id kind:Int)(name D:Str)(x:List AV)(has args I L:AV):AV:=.agg ([.int .i64 id,.int .i64 kind,.nils,.str name,.str D]++x++[has,args,I,L])
def x0:List AV:=[.int .i64 0,.int .i64 0,.str [],.nils]
def bd0:List AV:=[rwS 1 1 [118] [] (X.mk 1 2 [] []).cells .ff .nils .nils .nils,
 rwS 2 4 [103] [112] x0 .ff (.sl [.agg ([.ff,.str []]++(X.mk 1 3 [] []).cells),.agg ([.tt,.str [118]]++x0)]) .nils .nils,
 rwS 3 3 [] [] (X.mk 2 0 [118] []).cells .ff .nils .nils .nils,rwS 4 3 [] [] (X.mk 2 0 [103] []).cells .ff .nils .nils .nils]
def bd1:List AV:=[rwS 5 1 [121] [] (X.mk 8 0 [] [.mk 2 0 [121] [],.mk 2 0 [120] []]).cells .ff .nils .nils .nils,
 rwS 6 5 [] [] (X.mk 12 0 [] [.mk 2 0 [121] [],.mk 1 9 [] []]).cells .ff .nils (.sl [rwS 7 10 [101] [] x0 .ff .nils .nils .nils]) .nils,
 rwS 8 9 [] [] (X.mk 2 0 [121] []).cells .tt .nils .nils .nils]
def prc(a b:Nat):List LV:=[.p (.str [109,97,105,110]),.p .nils,.p (.sl [.str [118]]),.hd a 0 4,.p .nils,.p (.str [112]),.p (.sl [.agg [.str [120],.ff],.agg [.str [121],.tt]]),.p .nils,.hd b 0 3,.p (.sl [.str [101]])]
def somH:Heap:=[(5,.obj 62 (prc 1 3)),(3,.own 103 13 bd1),(1,.own 103 13 bd0),(0,.obj 25 [.p (.sl [.str [103]]),.hd 5 0 2])]
def q3h:aH 24 [] [] (.agg [.p (.sl [.str [103]]),.hd 5 0 2]) somH:=by
 refine sK KB func24 ?_;conv=>whnf
 repeat' ((first|refine cP (BH _) ?_|refine cP (FD _) ?_|refine x9p rfl ?_|refine aD ?_|refine S2 4 rfl rfl rfl ?_|refine S2 3 rfl rfl rfl ?_|refine BsK.pureL rfl rfl ?_|refine E3 ZP rfl rfl rfl rfl (by decide) (by decide) rfl ?_|refine cP (VR 8 (.mk 2 0 [121] []) (.mk 2 0 [120] [])) ?_|refine cP (VR 12 (.mk 2 0 [121] []) (.mk 1 9 [] [])) ?_)<;>conv=>whnf)
 exact z0f _ (x9b _) ⟨rfl,rfl⟩
def Jz{g:FuncId}{args:List LV}{C:Option Nat}{avs:List AV}(d z:Heap)(t:List (Nat×LV))(hH:s.H=d++z)(ha:FrzL d args avs)(hsl:∀i,getS t i=getS s.sl i\/getS t i=.p .any)(h:CallK P N g (avs.map .p) C ⟨t,z⟩ K):CallK P N g args C s K:=by
 refine⟨fun σ β a w Z R hn hv=>?_⟩;obtain⟨L,E⟩:=ha.get;have m:=Z.heap;rw[hH]at m;have x:∀k,k∈d.map (·.1)->k∈(d++z).map (·.1):=fun k n=>by rw[x8a];exact x9e _ n
 have v:∀k,k∈z.map (·.1)->k∈(d++z).map (·.1):=fun k n=>by rw[x8a];exact z0w _ n
 have hnd:=m.nodup;rw[x8a,z0a]at hnd;have hr1:HRel σ β d w:=⟨m.mem,fun k c hc=>m.chunks k c (x9e _ hc),hnd.1,fun k n=>m.apart k (x k n),fun k n y q=>m.inj k (x k n) y (x y q)⟩;obtain⟨τ,h5,h6,h7,h8⟩:=PA hr1;have hno:∀b,owns β d b->owns β z b->False:=fun b ⟨k,n,i,Y,V⟩ ⟨y,q,i',hi',hb'⟩=>by
  have B:=m.inj k (x k n) y (v y q) i i' Y hi' b V hb';exact hnd.2.2 k n y q B
 have Q:Rel N τ β ⟨t,z⟩ a w:=by
  refine⟨Z.size,Z.defers,fun i=>?_,⟨h6,fun k c hc=>(m.chunks k c (z0w _ hc)).mono h5 fun _ _ _ _=>rfl,hnd.2.1,fun k n i Y b V=>?_,fun k n y q=>m.inj k (v k n) y (v y q)⟩⟩
  .rcases hsl i with B|B
   .show RepL τ β (getS t i) _;rw[B];exact(Z.G i).mono h5
   .show RepL τ β (getS t i) _;rw[B];exact .p (.any _)
  .have h9:=m.apart k (v k n) i Y b V;refine⟨?_,h9.2⟩;cases M:τ b with
   |none=>rfl
   | some c=>
     rcases h7 b (by rw[M];simp)with A|A
     .exact absurd h9.1 A
     .exact (hno b A ⟨k,n,i,Y,V⟩).elim
 have J:Later σ β s.H w τ β z w:=by
  rw[hH];refine⟨h5,Frm.refl _ _,fun b h0 h1=>?_,fun b ⟨k,n,r⟩=>.inl ⟨k,v k n,r⟩,fun _ _ _=>rfl⟩;rcases h7 b h1 with h2|⟨k,n,r⟩
  .exact absurd h0 h2
  .exact .inl ⟨k,x k n,r⟩
 obtain⟨q1,q2⟩:=h.ok τ β a w Q R (by rw[x8b,<-L];exact hn) fun j l F=>by
  rw[x9x]at F;cases M:avs[j]?with
  |none=>rw[M]at F;cases F
  | some c=>
    rw[M]at F;cases F;obtain⟨l,h1,h2⟩:=E j c M;exact .p (h8 l _ c (hv j l h1) h2)
 exact⟨q1,q2.mono fun e w' ⟨u,σ',β',s',B,hK,hr',hl'⟩=>⟨u,σ',β',s',B,hK,hr',J.trans hl'⟩⟩
def d0P:Pg:=⟨[[103]],[
 ⟨[109,97,105,110],[],[[118]],[
   .mk 1 1 [] [118] [] (.mk 1 2 [] []) false [] [] [],
   .mk 2 4 [] [] [112] (.mk 0 0 [] []) false [⟨false,[],.mk 1 3 [] []⟩,⟨true,[118],.mk 0 0 [] []⟩] [] [],
   .mk 3 3 [] [] [] (.mk 2 0 [118] []) false [] [] [],
   .mk 4 3 [] [] [] (.mk 2 0 [103] []) false [] [] []],[]⟩,
 ⟨[112],[⟨[120],false⟩,⟨[121],true⟩],[],[
   .mk 0 2 [] [120] [] (.mk 0 0 [] []) false [] [] [],
   .mk 6 5 [] [] [] (.mk 12 0 [] [.mk 2 0 [121] [],.mk 1 9 [] []]) false [] [.mk 7 10 [] [101] [] (.mk 0 0 [] []) false [] [] []] [],
   .mk 8 9 [] [] [] (.mk 2 0 [103] []) true [] [] []],[[101]]⟩]⟩
def dP:Pg:=⟨[[103]],[
 ⟨[109,97,105,110],[],[[118]],[
   .mk 1 1 [] [118] [] (.mk 1 2 [] []) false [] [] [],
   .mk 2 4 [] [] [112] (.mk 0 0 [] []) false [⟨false,[],.mk 1 3 [] []⟩,⟨true,[118],.mk 0 0 [] []⟩] [] [],
   .mk 3 3 [] [] [] (.mk 2 0 [118] []) false [] [] [],
   .mk 4 3 [] [] [] (.mk 2 0 [103] []) false [] [] []],[]⟩,
 ⟨[112],[⟨[120],false⟩,⟨[121],true⟩],[],[
   .mk 5 2 [] [120] [] (.mk 0 0 [] []) false [] [] [],
   .mk 6 5 [] [] [] (.mk 12 0 [] [.mk 2 0 [121] [],.mk 1 9 [] []]) false [] [.mk 7 10 [] [101] [] (.mk 0 0 [] []) false [] [] []] [],
   .mk 8 9 [] [] [] (.mk 2 0 [103] []) true [] [] []],[[101]]⟩]⟩
def q9n:q7n d0P=dP:=by kernel_rfl
def q6z:CopyF d0P:=by
 refine⟨by decide,by decide,fun f l=>?_⟩;have h:f=d0P.A[0]\/f=d0P.A[1]:=by simpa[d0P]using l
 have i:∀t∈flL d0P.A[0].body,okC t/\t.id ≠ -1:=by unfold okC;decide
 have j:∀t∈flL d0P.A[1].body,okC t/\t.id ≠ -1:=by unfold okC;decide
 rcases h with rfl|rfl
 .exact ⟨by decide,by decide,by decide,by decide,i⟩
 .exact ⟨by decide,by decide,by decide,by decide,j⟩
def Sb{H:Heap}{n:Nat}{e sz:Nat}{es es':List AV}(h:getH H k=some (.own e sz es))(i:n=es.length)(j:SubE es es'):Frz H (.hd k 0 n) (.sl es'):=.sub (.hd h i) (Sub.sl j)
def x2m:List AV:=(bd1.set 0 (rwS 0 2 [120] [] x0 .ff .nils .nils .nils)).set 2 (rwS 8 9 [] [] [.int .i64 2,.int .i64 0,.str [103],.nils] .tt .nils .nils .nils)
def x2n:List AV:=bd0.set 1 (rwS 2 4 [] [112] x0 .ff (.sl [.agg ([.ff,.str []]++(X.mk 1 3 [] []).cells),.agg ([.tt,.str [118]]++x0)]) .nils .nils)
def x2t:Heap:=[(1,.obj 25 [.p (.sl [.str [103]]),.hd 25 0 2]),(25,.obj 62 (prc 21 23)),(23,.own 103 13 x2m),(21,.own 103 13 x2n)]
def x7p:SubE x2n [.agg d0P.A[0].body[0].cells,.agg d0P.A[0].body[1].cells,.agg d0P.A[0].body[2].cells,.agg d0P.A[0].body[3].cells]:=by repeat' (first|exact SubL.nil|exact SubE.nil|exact Sub.nils|exact Sub.ff rfl|exact Sub.tt rfl|refine SubL.cons ?_ ?_|refine SubE.cons ?_ ?_|exact Sub.refl _|refine Sub.agg ?_|refine Sub.sl ?_)
def x7n:SubE x2m [.agg d0P.A[1].body[0].cells,.agg d0P.A[1].body[1].cells,.agg d0P.A[1].body[2].cells]:=by repeat' (first|exact SubL.nil|exact SubE.nil|exact Sub.nils|exact Sub.ff rfl|exact Sub.tt rfl|refine SubL.cons ?_ ?_|refine SubE.cons ?_ ?_|exact Sub.refl _|refine Sub.agg ?_|refine Sub.sl ?_)
def q9p:Frz x2t (.agg [.p (.sl [.str [103]]),.hd 25 0 2]) (.agg d0P.cells):=by
 have f0:Frz x2t (.hd 21 0 4) (eSs d0P.A[0].body):=Sb (es:=x2n) rfl rfl x7p;have f1:Frz x2t (.hd 23 0 3) (eSs d0P.A[1].body):=Sb (es:=x2m) rfl rfl x7n;have r:Frz x2t (.hd 25 0 2) (.sl (d0P.A.map fun f=>.agg f.cells)):=by
  refine Frz.hdo (sz:=5) (ls:=prc 21 23) (cs:=d0P.A[0].cells++d0P.A[1].cells) rfl rfl (fun j l c h i=>?_) rfl (fun m x q=>?_) (fun m x j c q n=>?_)
  .match j,h,i with
   |0,h,i=>cases h;cases i;exact .p (Sub.refl _)
   |1,h,i=>cases h;cases i;exact .p Sub.nils
   |2,h,i=>cases h;cases i;exact .p (Sub.refl _)
   |3,h,i=>cases h;cases i;exact f0
   |4,h,i=>cases h;cases i;exact .p Sub.nils
   |5,h,i=>cases h;cases i;exact .p (Sub.refl _)
   |6,h,i=>cases h;cases i;exact .p (by repeat' (first|exact SubL.nil|exact SubE.nil|exact Sub.nils|exact Sub.ff rfl|exact Sub.tt rfl|refine SubL.cons ?_ ?_|refine SubE.cons ?_ ?_|exact Sub.refl _|refine Sub.agg ?_|refine Sub.sl ?_))
   |7,h,i=>cases h;cases i;exact .p Sub.nils
   |8,h,i=>cases h;cases i;exact f1
   |9,h,i=>cases h;cases i;exact .p (Sub.refl _)
   |j+10,h,i=>cases h
  .match m,q with
   |0,q=>cases q;rfl
   |1,q=>cases q;rfl
   |m+2,q=>cases q
  .match m,q with
   | 0,q=>
     cases q
     match j,n with
     |0,n=>exact n
     |1,n=>exact n
     |2,n=>exact n
     |3,n=>exact n
     |4,n=>exact n
     |j+5,n=>cases n
   | 1,q=>
     cases q
     match j,n with
     |0,n=>exact n
     |1,n=>exact n
     |2,n=>exact n
     |3,n=>exact n
     |4,n=>exact n
     |j+5,n=>cases n
   |m+2,q=>cases q
 refine .agg rfl fun j l c h i=>?_
 match j,h,i with
 |0,h,i=>cases h;cases i;exact .p (Sub.refl _)
 |1,h,i=>cases h;cases i;exact r
 |j+2,h,i=>cases h
def LK:aP 44 [] (.agg dP.cells):=by
 have h:=GX d0P q6z (by decide);rw[q9n]at h;refine SpecP.body ⟨VF [(5,[0]),(4,[0,1]),(3,[0,1]),(2,[0,1]),(1,[0,1]),(0,[0])],QZ [],QX []⟩ ZP func44 rfl call44 (by show 0<=_;decide) ?_;conv=>whnf
 repeat' ((first|refine x9p rfl ?_|refine z2b 0 rfl (by decide) ?_|refine z2b 1 rfl (by decide) ?_|refine z2b 2 rfl (by decide) ?_|refine z3h 0 0 _ (rwS 0 2 [120] [] x0 .ff .nils .nils .nils) rfl rfl (by decide) rfl ?_|refine z3h 2 5 _ (rwS 8 9 [] [] [.int .i64 2,.int .i64 0,.str [103],.nils] .tt .nils .nils .nils) rfl rfl (by decide) rfl ?_|refine z3h 1 3 _ (rwS 2 4 [] [112] x0 .ff (.sl [.agg ([.ff,.str []]++(X.mk 1 3 [] []).cells),.agg ([.tt,.str [118]]++x0)]) .nils .nils) rfl rfl (by decide) rfl ?_|(refine cH [] 20 q3h ?_ (hH:=z1x)))<;>conv=>whnf)
 refine Jz [(1,.obj 25 [.p (.sl [.str [103]]),.hd 25 0 2]),(25,.obj 62 (prc 21 23)),(23,.own 103 13 x2m),(21,.own 103 13 x2n)] [(0,.obj 25 [.p .nils,.p .nils])] [(0,.ptr 0 0)] rfl (avs:=[.agg d0P.cells]) (.cons q9p .nil) (fun i=>by
  cases i with
  |zero=>exact .inl rfl
  |succ i=>exact .inr rfl) ?_
 refine CallK.pure h (.cons (Sub.refl _) .nil) ?_;rintro _ rfl;conv=>whnf
 repeat' (refine x9p rfl ?_;conv=>whnf)
 all_goals first
  |exact⟨_,.p (Sub.refl _),rfl⟩
  |exact RetK.p rfl
end Go.Ab
