/- graph: an edge added to the rows of both its ends. -/
import Derived.Test.YtgpjfppgphaobaaGreatProJ12
set_option linter.all false
set_option maxRecDepth 100000
set_option maxHeartbeats 16000000
namespace Go.Ab
open Go.Proofs.Tryz
open Go.Proofs
variable {N:List (List Int)}{f:Pr}{it:Item}{k m:Nat}
def avI(rows:List (List Int)):List (List AV):=rows.map fun r=>r.map (.int .i64)
def Vh(n:Nat)(N P:List (List Int)):Heap:=[(1000,.obj 236 [.hd 2001 0 n,.hd 2002 0 n]),(2001,.ext (.mat 56 3 1 (avI N) [])),(2002,.ext (.mat 56 3 1 (avI P) []))]
def ZT(n:Nat)(a:Int):Bool:=decide (0<=a)&&decide (a<n)
theorem Bp(n:Nat)(N P:List (List Int))(a:Int):
  aH 185 [.ptr 1000 0,.j a] (Vh n N P) (.p (.bool (ZT n a))) (Vh n N P):=by
 refine sK GS func185 ?_;conv=>whnf
 repeat' (apply bD<;>intro _<;>first|omega|conv=>whnf)
 ·exact⟨_,z3x (Sub.bool (by unfold ZT;simp;omega)),rfl,rfl⟩
 ·exact⟨_,z3x (Sub.ff (by unfold ZT;simp;omega)),rfl,rfl⟩
def x6a(N:List (List Int)):Prop:=∀r∈N,r.Pairwise (· <= ·)/\r.length<=100000000
def D0(N:List (List Int))(a:Nat)(b:Int):List (List Int):=N.set a (Vf (N.getD a []) ((N.getD a []).countP (· < b)) b)
def Ea{i:Nat}(h:i<N.length)(b:Int):avI (D0 N i b)=(avI N).set i ((Vf N[i] (N[i].countP (· < b)) b).map (.int .i64)):=by
 unfold avI D0;rw[z0q];simp[h]
theorem Mf(n:Nat)(N P:List (List Int))(a b:Int)(E:N.length=n)(F:P.length=n)(I:n<=5000)(g:x6a N)(A:x6a P):
  SpecH prog 242 [.ptr 1000 0,.j a,.j b] (Vh n N P) (fun r H=>∃t,r=.p (.bool t)/\H=Vh n
   (bif ZT n a&&ZT n b && !(N.getD a.toNat []).contains b then D0 N a.toNat b else N) (bif ZT n a&&ZT n b && !(N.getD a.toNat []).contains b then D0 P b.toNat a else P)):=by
 refine sK Zg func242 ?_;conv=>whnf
 repeat' ((first|refine x9g rfl ?_|(apply bN<;>intro _)|(refine cH [(1000,1000),(2001,2001),(2002,2002)] 0 (Bp n N P _) ?_))<;>conv=>whnf)
 rotate_left 1
 ·exact⟨_,z3x (Sub.ff rfl),false,rfl,by simp[*];rfl⟩
 ·exact⟨_,z3x (Sub.ff rfl),false,rfl,by simp[*];rfl⟩
 have ha:0<=a/\a<n:=by rename_i h _;unfold ZT at h;simpa using h
 have G:0<=b/\b<n:=by rename_i h;unfold ZT at h;simpa using h
 have d:ZT n a=true:=by assumption
 have e:ZT n b=true:=by assumption
 obtain⟨i,rfl⟩ : ∃i:Nat,a=i:=⟨a.toNat,by omega⟩;obtain⟨j,rfl⟩ : ∃j:Nat,b=j:=⟨b.toNat,by omega⟩;have u:i<N.length:=by omega
 have v:j<P.length:=by omega
 obtain⟨y,B⟩:=g _ (x8o u);obtain⟨z,C⟩:=A _ (x8o v);have l:(avI N)[i]?=some (N[i].map (.int .i64)):=by unfold avI;simp[u]
 have o:(avI P)[j]?=some (P[j].map (.int .i64)):=by unfold avI;simp[v]
 have c:N.getD (i:Int).toNat []=N[i]:=by simp[u]
 have D:P.getD (j:Int).toNat []=P[j]:=by simp[v]
 refine iO i ?_;conv=>whnf
 repeat' ((first|refine z3d i _ (by omega) l (by simp) ?_|(apply bB<;>intro _)|(refine QR (JH N[i] j y (by omega)) (.cons (.row rfl l (by simp)) (.cons (.p (Sub.refl _)) .nil)) (by rintro _ rfl;rfl) ?_;rintro _ rfl))<;>conv=>whnf)
 ·exact⟨_,z3x (Sub.ff rfl),false,rfl,by rw[c,d,e,show N[i].contains (j:Int)=true by assumption];rfl⟩
 have q:N[i].countP (· < (j:Int))<=N[i].length:=z5q;refine ZW ⟨[(0,.ptr 1000 0),(1,.j i),(2,.j j)],Vh n (D0 N i j) P⟩ ?_ ?_
 ·refine DrawK.of XD mixed (.cons 13 true (.cons 0 false (.cons 1 false (.cons 2 false (.cons 4 false (.cons 5 false (.cons 6 false (.cons 7 false (.cons 9 false (.alo 8 (.alo 10 (.alo 11 (.alo 12 (.fork 3 (.cons 14 true (.cons 15 true (.cons 16 true (.cons 17 true .nil)))) 14 (.fork 3 (.cons 15 true (.cons 16 true (.cons 17 true .nil))) 15 (.cons 3 true (.cons 16 true (.cons 17 true .nil)))))))))))))))))) (by kernel_rfl) ?_;conv=>whnf
  repeat' ((first|refine x9g rfl ?_|refine aD ?_|refine iO i ?_|refine z3d i _ (by omega) l (by simp) ?_|refine z4x (fun x w=>by rcases x8l.1 w with rfl;rfl) rfl ?_|(refine ZA XD rfl rfl rfl rfl rfl rfl rfl rfl rfl (by decide) i [] (by omega) (by unfold avI;rw[x8g];omega) (by rw[x8g,Ua q]) ⟨by simp,by simp,by simp⟩ ?_)|refine CallK.focus 2001 i 1 rfl rfl l (by simp) rfl (.row (.cons rfl (.cons rfl .nil))) ?_|(refine cH [(2000,1),(1000,0)] 0 (Xc N[i] (N[i].countP (· < (j:Int))) j q (by omega)) ?_ (ha:=(x9d (z3y (by rw[x8g];rfl)) (x9d (x9j _) (x9d (x9j _) z1y)))))|refine x9g ?_ ?_)<;>conv=>whnf)
  all_goals exact Le.of_eq (by unfold Vh;rw[Ea u])
 conv=>whnf
 have s:P[j].countP (· < (i:Int))<=P[j].length:=z5q;repeat' ((first|refine x9g rfl ?_|refine iO j ?_|refine z3d j _ (by omega) o (by simp) ?_|(refine QR (JH P[j] i z (by omega)) (.cons (.row rfl o (by simp)) (.cons (.p (Sub.refl _)) .nil)) (by rintro _ rfl;rfl) ?_;rintro _ rfl))<;>conv=>whnf)
 refine ZW ⟨[],Vh n (D0 N i j) (D0 P j i)⟩ ?_ ?_
 ·refine DrawK.of XD mixed (.cons 13 true (.cons 0 false (.cons 1 false (.cons 2 false (.cons 4 false (.cons 5 false (.cons 6 false (.cons 7 false (.cons 9 false (.alo 8 (.alo 10 (.alo 11 (.alo 12 (.fork 3 (.cons 14 true (.cons 15 true (.cons 16 true (.cons 17 true .nil)))) 14 (.fork 3 (.cons 15 true (.cons 16 true (.cons 17 true .nil))) 15 (.cons 3 true (.cons 16 true (.cons 17 true .nil)))))))))))))))))) (by kernel_rfl) ?_;conv=>whnf
  repeat' ((first|refine x9g rfl ?_|refine aD ?_|refine iO j ?_|refine z3d j _ (by omega) o (by simp) ?_|refine z4x (fun x w=>by rcases x8l.1 w with rfl;rfl) rfl ?_|(refine ZA XD rfl rfl rfl rfl rfl rfl rfl rfl rfl (by decide) j [] (by omega) (by unfold avI;rw[x8g];omega) (by rw[x8g,Ua s]) ⟨by simp,by simp,by simp⟩ ?_)|refine CallK.focus 2002 j 1 rfl rfl o (by simp) rfl (.row (.cons rfl (.cons rfl .nil))) ?_|(refine cH [(2000,1),(1000,0)] 0 (Xc P[j] (P[j].countP (· < (i:Int))) i s (by omega)) ?_ (ha:=(x9d (z3y (by rw[x8g];rfl)) (x9d (x9j _) (x9d (x9j _) z1y)))))|refine x9g ?_ ?_)<;>conv=>whnf)
  all_goals exact Le.of_eq (by unfold Vh;rw[Ea v])
 conv=>whnf
 skip
 exact⟨_,z3x (Sub.tt rfl),true,rfl,by rw[c,d,e,show N[i].contains (j:Int)=false by assumption];rfl⟩
section
variable {P:Program}{T:Tab}{N:Nat}
def q8j{σ:Mem}{β:Lab}{H H':Heap}{d:Chunk}{w w':World}{i:BInfo}(h:HRel σ β H w)(a:k∈H.map (·.1))(y:β k=some i)(n:Frm (fun b=>b=i.blk) w w')(s:H'.map (·.1)=H.map (·.1))(E:∀j c,(j,c)∈H'->j≠k->(j,c)∈H)(F:∀c,(k,c)∈H'->c=d)(v:d.holds σ β w' k):HRel σ β H' w'/\Later σ β H w σ β H' w':=by
 have x:=h.apart k a i y;refine⟨⟨fun b cs l=>?_,fun j c p=>?_,by rw[s];exact h.nodup,fun j p i' o b l=>?_,fun j p I z=>h.inj j (s▸p) I (s▸z)⟩,Mem.le_refl σ,⟨n.os,n.tape,n.output,n.drawn,n.size,fun b l G=>n.block b l fun t=>G ⟨k,a,i,y,.inl t.symm⟩⟩,
  fun b C D=>absurd C D,fun b ⟨j,p,r⟩=>.inl ⟨j,s▸p,r⟩,fun _ _ _=>rfl⟩
 .obtain ⟨e,B,g⟩:=h.mem b cs l;exact⟨e,B,(n.block b (x9k.1 g).1 fun t=>by rw[t,(x _ i.has_blk).1]at l;cases l).trans g⟩
 .by_cases q:j=k
  .subst q;rw[F c p];exact v
  .have A:=E j c p q;have u:j∈H.map (·.1):=x8s.2 ⟨_,A,rfl⟩;exact(h.chunks j c A).mono (Mem.le_refl σ) fun i' o b l=>n.block b (h.apart j u i' o b l).2 fun t=>q (h.inj j u k a i' i o y b l (.inl t.symm))
 .have:=h.apart j (s▸p) i' o b l;exact⟨this.1,z2b this.2 n.size⟩
theorem OpK.clear(hT:TabOK P T){s:St}{o:Oper}{K:St->Prop}{t:TypeId}{x:Operand}(hop:o.op=.call {callee:=.builtin .clear,args:=#[x],argTypes:=#[t]}){off len:Nat}(A:QP s.sl x=.hd k off len){e sz:Nat}{es:List AV}(hg:getH s.H k=some (.own e sz es)){i F:TyI}(ht:T.get t=some i)(hd:i.desc=.slice e)(hte:T.get e=some F)(hz:F.zero.cells.size=sz)(hone:F.zero.cells.all (·.oneCell')=true)(hpos:0<sz)(h:Uu s.H k (.own e sz (es.take off)) fun H=>setD N s.sl o.dst (.p (.tup [])) fun sl=>K ⟨sl,H⟩):OpK P N s o K:=by
 refine⟨fun σ β a w l Q=>?_⟩;have Y:=QX l.E x;rw[A]at Y;generalize hxe:a.eval x=v at Y;obtain⟨H',hK,h3,h4,h5⟩:=UU l.heap.nodup h;have hlab:=QN hg;have hu:=hT.of ht;rw[hd]at hu;have hue:=hT _ _ hte;have G:RepL σ β (.p (.tup [])) (.tuple #[]):=.p (.tup [] #[] (fun _=>undef) rfl (by simp) (by simp));have hbc:∀{w'} ,(Builtin.clear_ #[t] o.type #[v]).run P w=.ok (.tuple #[]) w'->(execOp a.eval o).run P w=.ok (.value (.tuple #[])) w':=fun {w'} hc=>by
  simp[execOp,hop,resolve,invoke,builtin,hxe,hc]
 have hch:=l.heap.chunks k _ (QH hg);have B:len=0->(Builtin.clear_ #[t] o.type #[v]).run P w=.ok (.tuple #[]) w->(o.wp P a w (fun a' w'=>∃σ' β' s',K s'/\Rel N σ' β' s' a' w'/\Later σ β s.H w σ' β' s'.H w') Q):=fun _ g=>by
  have z:HRel σ β H' w/\Later σ β s.H w σ β H' w:=by
   refine⟨⟨l.heap.mem,fun j c y=>?_,by rw[h3];exact l.heap.nodup,fun j y=>l.heap.apart j (h3▸y),fun j y j' hj'=>l.heap.inj j (h3▸y) j' (h3▸hj')⟩,Mem.le_refl σ,Frm.refl _ w,fun b h0 h1=>absurd h0 h1,fun b ⟨j,y,r⟩=>.inl ⟨j,h3▸y,r⟩,fun _ _ _=>rfl⟩;by_cases hjk:j=k
   ·subst hjk;rw[h5 c y];rcases hch with⟨C,h7⟩|⟨J,vs,C,h7,h8,h9,h10,L,M⟩
    ·exact .inl ⟨C,by rw[h7];simp⟩
    ·exact .inr ⟨J,vs,C,h7,h8,h9,by simp;omega,L,fun m x A=>M m x (by rw[z0u]at A;split at A;exact A;cases A)⟩
   ·exact l.heap.chunks j c (h4 j c y hjk)
  have U:Rel N σ β ⟨s.sl,H'⟩ a w:=⟨l.size,l.defers,l.E,z.1⟩;obtain⟨sl,hK,V⟩:=U.setD G hK;exact XS (hbc g) ⟨σ,β,_,hK,V,z.2⟩
 rcases Y.hdI with⟨hk0,hoff,hlen,I⟩|⟨J,oo,hk,hfit,D,I⟩
 ·subst I;refine B hlen ?_;simp[Builtin.clear_,run_underlying hu]
 by_cases hl0:len=0
 ·subst hl0 I;refine B rfl ?_;simp[Builtin.clear_,run_underlying hu]
 rcases hch with⟨C,_⟩|⟨bi',vs,C,h7,h8,h9,h10,L,M⟩
 ·rw[hk]at C;cases C
 rw[hk]at C;cases C;have D:oo=off*sz:=by
  rcases D with D|⟨O,_⟩
  ·rw[D,h7]
  ·omega
 obtain⟨zs,Z⟩ : ∃zs,zs=(Builtin.zeroCells F.zero.cells len).toList:=⟨_,rfl⟩;have hzl:zs.length=len*sz:=by rw[Z];simp[Builtin.zeroCells,hz]
 have hz1:∀v∈zs,v.oneCell'=true:=fun v I=>by
  rw[Z]at I;simp only[Builtin.zeroCells,Array.toList_map,x8s]at I;obtain⟨q,hq,rfl⟩:=I;have R:q%F.zero.cells.size<F.zero.cells.size:=Nat.mod_lt _ (by omega);rw[z5r F.zero.cells (q%F.zero.cells.size) R];exact Array.all_eq_true.1 hone _ R
 have hend:off*sz+len*sz<=vs.size:=by
  rw[h9,<-z1u];exact z0y _ hfit
 have hst:=run_storeCells_cells (P:=P) J.blk oo zs 0 w (fun j y=>by
   have:oo+0+j<vs.size:=by omega
   simp only[World.cell?,h8];rw[z1f this];rfl) (fun j y=>by simp[World.frozen?,h8]) hz1
 have g:(Builtin.clear_ #[t] o.type #[v]).run P w=.ok (.tuple #[]) (w.setCells J.blk oo zs):=by
  subst I;have hzv:(zeroValue e).run P w=.ok F.zero w:=by
   have:=hue.info;cases hq:P.info? e with
   |none=>rw[hq]at this;cases this
   | some f=>
     rw[hq]at this;simp at this;simp[zeroValue,typeInfo,hq,this]
  obtain⟨len',rfl⟩ : ∃l',len=l'+1:=⟨len-1,by omega⟩;simp only[z3q]at hst;simp[Builtin.clear_,Sem.run_bind,run_underlying hu,hzv,<-Z,hst]
 obtain⟨s1,s2⟩:=WP zs oo h8;have hnew:(Chunk.own e sz (es.take off)).holds σ β (w.setCells J.blk oo zs) k:=by
  refine .inr ⟨J,_,hk,h7,s1,by rw[UT];exact h9,by simp;omega,L,fun m x A=>?_⟩;rw[z0u]at A;split at A
  ·rename_i hm;obtain⟨O,h14⟩:=M m x A;refine⟨O,fun j c y=>?_⟩;obtain⟨u,h15,h16⟩:=h14 j c y;have hjl:j<sz:=by rw[<-O];exact(x8t.1 y).1
   have R:m*sz+j<off*sz:=by
    have:(m+1)*sz<=off*sz:=z0y _ hm;rw[z1u]at this;omega
   exact⟨u,by rw[FD _ _ _ _ (by omega),if_neg (by omega)];exact h15,h16⟩
  ·cases A
 obtain⟨hh,hl⟩:=q8j l.heap hlab hk s2 h3 h4 h5 hnew;have U:Rel N σ β ⟨s.sl,H'⟩ a (w.setCells J.blk oo zs):=⟨l.size,l.defers,l.E,hh⟩;obtain⟨sl,hK,V⟩:=U.setD G hK;exact XS (hbc g) ⟨σ,β,_,hK,V,hl⟩
end
def XW(p:Step):List Step->List Step
 |[]=>[]
 |b::r=>bif ZN b p then XW b r else b::XW b r
def MR:List Step->List Step
 |[]=>[]
 |a::r=>a::XW a r
def RE{l:List Step}(h:l.length<2):MR l=l:=by
 match l,h with
 |[],_=>rfl
 |[a],_=>rfl
def avS(l:List Step):List AV:=l.map fun s=>.agg s.cells
theorem Xs(l:List Step)(A:l.length<=1000000000):
  aH 228 [.hd 1000 0 l.length,.p (.fn 229 [])] [(1000,.own 225 3 (avS l))] (.hd 1000 0 (MR l).length) [(1000,.own 225 3 (avS (MR l)))]:=by
 refine sK WD func228 ?_;conv=>whnf
 repeat' ((first|(refine iM fun _=>?_)|(apply bD<;>intro _<;>try omega))<;>conv=>whnf)
 ·have e:MR l=l:=RE (by omega);rw[e];exact⟨_,x9j _,rfl,rfl⟩
 refine lI (fun k:Nat=>⟨[(0,.hd 1000 0 l.length),(1,.p (.fn 229 [])),(5,.j k)],[(1000,.own 225 3 (avS l))]⟩) (fun k=>1<=k/\k<=l.length/\∃a,l[k-1]?=some a/\l.take k++XW a (l.drop k)=MR l) (fun k=>l.length-k) 1 ⟨x9z _,by omega,?_⟩ ?_
 ·cases l with
  |nil=>simp at*
  |cons a r=>exact⟨a,rfl,rfl⟩
 rintro k ⟨J,K,a,ha,t⟩;rcases x8a k l.length with u|u;rotate_left 1
 ·rw[x9v u,x9q u]at t;conv=>whnf
  repeat' ((first|(refine iM fun _=>?_)|(apply bD<;>intro _<;>try omega))<;>conv=>whnf)
  rw[<-t,XW,x9c];exact⟨_,x9j _,rfl,rfl⟩
 rw[x9t u,XW]at t;have c:k-1<l.length:=by omega
 obtain⟨_,b⟩:=x8t.1 ha;have w:(avS l)[k]?=some (.agg l[k].cells):=by simp[avS,u]
 have n:(avS l)[k-1]?=some (.agg a.cells):=by simp[avS,ha]
 conv=>whnf
 repeat' ((first|(refine gX ?_;intros)|refine cP (Jq _ _) ?_|refine dA ?_|refine iO k ?_|refine iO (k-1) ?_|refine lO w ?_|refine lO n ?_|refine z4b k l.length rfl rfl (by omega) (by omega) ?_|((first|apply bD|apply bB)<;>intro _<;>try omega))<;>conv=>whnf)
 rotate_left 1
 ·have h:ZN l[k] a=false:=by assumption
  rw[h,x9p]at t;exact nX (k+1) ⟨by omega,by omega,l[k],by simp[u],by rw[<-t,x8c u,x9u];rfl⟩
 have h:ZN l[k] a=true:=by assumption
 rw[h,x9y]at t;clear ha b w n c h;refine lI (fun x:Nat×Nat×List Step=>⟨[(0,.hd 1000 0 l.length),(1,.p (.fn 229 [])),(5,.j x.2.1),(6,.hd 1000 (0+k) (l.length-k)),(7,.j x.1)],[(1000,.own 225 3 (avS x.2.2))]⟩) (fun x=>1<=x.1/\x.1<=l.length-k/\x.2.1<=k+x.1-1/\x.2.2.length=l.length/\x.2.2.drop (k+x.1-1)=l.drop (k+x.1-1)/\∃a,l[k+x.1-1]?=some a/\x.2.2.take x.2.1++XW a (l.drop (k+x.1))=MR l) (fun x=>l.length-k-x.1) (1,k,l) ⟨x9z _,by simp only;omega,by simp only;omega,rfl,rfl,l[k],by simp[u],t⟩ ?_;rintro⟨q,i,es⟩ ⟨C,D,E,y,v,a,ha,o⟩;clear t;simp only at C D E y v ha o⊢;have F:(avS es).length=l.length:=by simp[avS,y]
 rcases x8a q (l.length-k)with I|I
 ·have s:k+q<l.length:=by omega
  have g:es[k+q]?=l[k+q]?:=by
   have:=z0o (fun x=>x[1]?) v;simp only[z0p]at this
   rwa[show k+q-1+1=k+q by omega]at this
  have e2:es[k+q-1]?=some a:=by
   have:=z0o (fun x=>x[0]?) v;simp only[z0p,z3q]at this;rw[this,ha]
  rw[x8h s]at g;have w:(avS es)[k+q]?=some (.agg l[k+q].cells):=by simp[avS,g]
  have n:(avS es)[k+q-1]?=some (.agg a.cells):=by simp[avS,e2]
  have G:i<es.length:=by omega
  have B:(avS es)[i]?=some (.agg es[i].cells):=by simp[avS,G]
  rw[x9t s,XW]at o;conv=>whnf
  repeat' ((first|(refine gX ?_;intros)|refine cP (Jq _ _) ?_|refine dA ?_|refine iO q ?_|refine iO (q-1) ?_|refine iO i ?_|refine lO w ?_|refine lO n ?_|refine z3v i 0 (.agg es[i].cells) (.agg l[k+q].cells) (by omega) B (show 3<=3 from x9z 3) rfl ?_|((first|apply bD|apply bN)<;>intro _<;>try omega))<;>conv=>whnf)
  ·have h:ZN l[k+q] a=true:=by assumption
   rw[h,x9y]at o;exact nX (q+1,i,es) ⟨by simp only;omega,by simp only;omega,by simp only;omega,y,by
    have:=z0o (List.drop 1) v;simp only[z5x]at this;simpa only[show k+(q+1)-1=k+q-1+1 by omega]using this,l[k+q],by simp[s],o⟩
  ·have h:ZN l[k+q] a=false:=by assumption
   rw[h,x9p]at o;have z:(es.set i l[k+q]).drop (k+q)=l.drop (k+q):=by
    rw[List.drop_set_of_lt (by omega)];have:=z0o (List.drop 1) v;simp only[z5x]at this
    rwa[show k+q-1+1=k+q by omega]at this
   exact⟨(q+1,i+1,es.set i l[k+q]),⟨by simp only;omega,by simp only;omega,by simp only;omega,by simp only[z0m];exact y,z,l[k+q],by simp[s],by
    simp only;rw[<-o,x8c (by simp;omega),List.take_set_of_le (by omega),List.getElem_set_self,x9u];rfl⟩,by simp only;omega,Le.of_eq (by simp only[avS,z0q];rfl)⟩
 ·have d:k+q=l.length:=by omega
  rw[d,List.drop_length,XW,x9c]at o;conv=>whnf
  repeat' ((first|(refine gX ?_;intros)|refine z4b i l.length rfl rfl (by omega) (by omega) ?_|(apply bD<;>intro _<;>try omega))<;>conv=>whnf)
  refine OpK.clear XD rfl rfl rfl rfl rfl rfl rfl (by kernel_rfl) (by decide) ?_;conv=>whnf
  repeat' ((first|refine x9g rfl ?_|refine z4b 0 i rfl rfl (by omega) (by omega) ?_)<;>conv=>whnf)
  have H:i=(MR l).length:=by rw[<-o];simp;omega
  exact⟨_,z3y (by rw[<-H];rfl),rfl,by rw[z1h,<-o];simp[avS,List.map_take]⟩
def VD(l:List Step):List Step:=MR (GY l)
def J9(l:List Step)(i:∀s∈l,okSt s)(h:l.length<=1000000000):
  aH 176 [.hd 1000 0 l.length] [(1000,.own 225 3 (avS l))] (.hd 1000 0 (VD l).length) [(1000,.own 225 3 (avS (VD l)))]:=by
 refine sK RV func176 ?_;conv=>whnf
 repeat' ((first|(refine cH rH5 0 (Ka l i h) ?_)|(refine cH rH5 0 (Xs (GY l) (by rw[Wf];exact h)) ?_ (ha:=(x9d (z3y (by rw[Wf];rfl)) (x9d (x9j _) z1y)))))<;>conv=>whnf)
 exact⟨_,x9j _,rfl,rfl⟩
def HY(h:Sheet)(f:Pr)(it:Item):List Int:=
 if it.s.kind=5 then [A2 it.s.M it.next,A2 it.s.V it.next]
 else if it.s.kind=6 then [A2 it.s.M it.s.id,it.next]
 else if it.s.kind=7 then [((h.l[(it.loop-1).toNat]?).map Item.next).getD 0]
 else if it.s.kind=8 then [it.loop]
 else if it.s.kind=9 then [-1]
 else if it.s.kind=10 then [(atB f it.s.name).1]
 else [it.next]
def Fz(l:List S)(o:Int):aP 241 [eSs l,.int .i64 o] (.int .i64 (A2 l o)):=by
 unfold eSs;rw[S.avs_eq];exact I6 l o
theorem J8(p:Pg)(j:Nat)(f:Pr)(w:p.A[j]?=some f)(v:cntP p.A<=1000)(it:Item)(x:it.C=j)(r:it.s.kind=7->1<=it.loop/\it.loop<=(sheetOf p).l.length):aP 183 [.ip (sheetOf p).cells,.agg it.cells] (QE (HY (sheetOf p) f it)):=by
 refine sC Zz func183 ?_;conv=>whnf
 have t:=(QU p).2.2.2.1;have y:it.s.kind=7->∃u,(sheetOf p).l[(it.loop-1).toNat]?=some u/\((sheetOf p).l.map fun i=>AV.agg i.cells)[(it.loop-1).toNat]?=some (.agg u.cells):=fun h=>by
  have:=r h;have n:(it.loop-1).toNat<(sheetOf p).l.length:=by omega
  exact⟨_,x8h n,by rw[x8n,x8h n];rfl⟩
 repeat' ((first|refine dA ?_|refine x9g rfl ?_|refine aD ?_|refine bP ?_|refine wI ?_|refine cP (Qa p j f w v it.s.name) ?_ (ha:=.cons (Sub.refl _) (.cons (Sub.int x) (.cons (Sub.refl _) .nil)))|refine BsK.pureL rfl rfl ?_|refine cP (Fz it.s.M _) ?_|refine cP (Fz it.s.V _) ?_|(obtain⟨u,o,q⟩:=y (by assumption);refine IdxK.at (by have:=r (by assumption);omega) q rfl ?_)|(apply bD<;>intro _<;>try omega))<;>conv=>whnf)
 all_goals first
  |exact RetK.p (by unfold HY;rw[if_neg (by assumption),if_neg (by assumption),if_pos (by assumption),o];rfl)
  |exact RetK.p (by unfold HY;rw[if_pos (by assumption)];rfl)
  |exact RetK.p (by unfold HY;rw[if_neg (by assumption),if_pos (by assumption)];rfl)
  |exact RetK.p (by unfold HY;rw[if_neg (by assumption),if_neg (by assumption),if_neg (by assumption),if_pos (by assumption)];rfl)
  |exact RetK.p (by unfold HY;rw[if_neg (by assumption),if_neg (by assumption),if_neg (by assumption),if_neg (by assumption),if_pos (by assumption)];rfl)
  |exact RetK.p (by unfold HY;rw[if_neg (by assumption),if_neg (by assumption),if_neg (by assumption),if_neg (by assumption),if_neg (by assumption),if_pos (by assumption)];rfl)
  |exact RetK.p (by unfold HY;rw[if_neg (by assumption),if_neg (by assumption),if_neg (by assumption),if_neg (by assumption),if_neg (by assumption),if_neg (by assumption)];rfl)
def QM(p:Pg)(j:Nat)(f:Pr):List Step:=
 ⟨0,if QC p.A j<QC p.A j+QY f.body then((QC p.A j:Nat)+1:Int)else -1,1⟩::(itL j 0 (-1) 0 (QC p.A j) f.body).flatMap fun it=>(HY (sheetOf p) f it).map (Step.mk it.s.id · 1)
def itsOf(p:Pg)(j:Nat)(f:Pr):List Item:=itL j 0 (-1) 0 (QC p.A j) f.body
theorem U9(p:Pg)(j:Nat)(f:Pr)(g:p.A[j]?=some f)(F:cntP p.A<=1000)(H:∀it∈itsOf p j f,it.s.kind=7->1<=it.loop/\it.loop<=(sheetOf p).l.length)(z:∀s∈QM p j f,okSt s):aP 139 [.ip (sheetOf p).cells,.int .i64 j] (eSteps (VD (QM p j f))):=by
 refine sC Q1 func139 ?_;conv=>whnf
 obtain⟨_,_,_,I,E⟩:=QU p;obtain⟨B,d,R,_⟩:=E j f g;repeat' ((first|(refine iM fun _=>?_)|refine x9g rfl ?_|refine aD ?_|refine cP (U8 (sheetOf p) j _ _ B d) ?_|refine cP (B3 p g F) ?_|refine z4x (fun x U=>by rcases x8l.1 U with rfl;rfl) rfl ?_)<;>conv=>whnf)
 have t:QM p j f=⟨0,if QC p.A j<QC p.A j+QY f.body then((QC p.A j:Nat)+1:Int)else -1,1⟩::(itsOf p j f).flatMap fun it=>(HY (sheetOf p) f it).map (Step.mk it.s.id · 1):=rfl;have r:itL j 0 (-1) 0 (QC p.A j) f.body=itsOf p j f:=rfl;have a:∀it∈itsOf p j f,it.C=j:=fun it h=>GX _ _ _ _ _ _ it h;have e:(itsOf p j f).length<=1000:=by rw[<-r,XO];omega
 rw[r];generalize itsOf p j f=its at H t a e⊢;have Q:=WY its;refine lI (fun i:Nat×List Step=>⟨[(0,.p (.ip (sheetOf p).cells)),(5,.hd 0 0 i.2.length),(17,.p (ZE its)),(18,.p (.int .i64 (its.map fun i=>AV.agg i.cells).length)),(19,.j i.1)],[(0,.own 225 3 (avS i.2))]⟩) (fun i=>i.1<=its.length/\i.2.length<=1+2*i.1/\i.2++(its.drop i.1).flatMap (fun it=>(HY (sheetOf p) f it).map (Step.mk it.s.id · 1))=QM p j f) (fun i=>its.length-i.1) (0,[⟨0,if QC p.A j<QC p.A j+QY f.body then((QC p.A j:Nat)+1:Int)else -1,1⟩]) ⟨x8m _,by simp,by rw[t];rfl⟩ ?_;rintro⟨m,n⟩ ⟨J,K,u⟩;simp only at J K u⊢;rcases x8a m its.length with b|b;rotate_left 1
 ·have w:n=QM p j f:=by
   rw[x9v b]at u;simpa using u
  rw[<-w]at z⊢;conv=>whnf
  repeat' ((first|(apply bD<;>intro _<;>try omega)|(refine cH rH1 0 (J9 n z (by omega)) ?_))<;>conv=>whnf)
  exact⟨_,.hd rfl (by simp[avS]),rfl⟩
 have c:(HY (sheetOf p) f its[m]).length<=2:=by unfold HY;split<;>(try split)<;>(try split)<;>(try split)<;>(try split)<;>(try split)<;>simp
 rw[YR b]at u;have y:=x8o b;conv=>whnf
 repeat' ((first|(refine gX ?_;intros)|refine cP (J8 p j f g F its[m] (a _ y) (H _ y)) ?_|(apply bD<;>intro _<;>try omega))<;>conv=>whnf)
 generalize O:HY (sheetOf p) f its[m]=gs at c u⊢;have G:(gs.map (AV.int .i64)).length=gs.length:=x8g _;refine lI (fun i:Nat×List Step=>⟨[(0,.p (.ip (sheetOf p).cells)),(5,.hd 0 0 i.2.length),(7,.p (.ip its[m].cells)),(17,.p (ZE its)),(18,.p (.int .i64 (its.map fun i=>AV.agg i.cells).length)),(19,.j m),(25,.p (QE gs)),(26,.p (.int .i64 (gs.map (AV.int .i64)).length)),(27,.j i.1)],[(0,.own 225 3 (avS i.2))]⟩) (fun i=>i.1<=gs.length/\i.2.length<=n.length+i.1/\i.2++((gs.drop i.1).map (Step.mk its[m].s.id · 1)++(its.drop (m+1)).flatMap (fun it=>(HY (sheetOf p) f it).map (Step.mk it.s.id · 1)))=QM p j f) (fun i=>gs.length-i.1) (0,n) ⟨x8m _,by simp,u⟩ ?_;rintro⟨q,o⟩ ⟨L,M,v⟩;simp only at L M v⊢;rcases x8a q gs.length with D|D;rotate_left 1
 ·rw[x9v D]at v;conv=>whnf
  repeat' ((first|refine wI ?_|(apply bD<;>intro _<;>try omega))<;>conv=>whnf)
  exact nX (m+1,o) ⟨by simp only;omega,by simp only;omega,by simpa using v⟩
 rw[x9t D,x9f]at v;conv=>whnf
 repeat' ((first|(refine gX ?_;intros)|refine pA 1 24 (by simp[avS]) ?_|(apply bD<;>intro _<;>try omega))<;>conv=>whnf)
 exact⟨(q+1,o++[⟨its[m].s.id,gs[q],1⟩]),⟨by simp only;omega,by simp;omega,by simpa using v⟩,by simp only;omega,Le.of_eq (by simp only[avS,x8d,x8i];rfl)⟩
def bv:Bool->AV
 |true=>.tt
 |false=>.ff
structure Way where
 p:Pg
 j:Nat
 n:Int
 real:List Step
 live:List Bool
def Way.cells(w:Way):List AV:=[.ip (sheetOf w.p).cells,.int .i64 w.j,.int .i64 w.n,eSteps w.real,.sl (w.live.map bv)]
def q5s(p:Pg)(j:Nat)(n:Int)(h:AV)(i:List AV):Heap:=[(1000,.obj 103 [.p (.ip (sheetOf p).cells),.p (.int .i64 j),.p (.int .i64 n),.p h,.hd 2000 0 i.length]),(2000,.own 4 1 i)]
def KU(h i n x:Int):Int:=if x=0 then 0 else if x = -1 then n-1 else if h<=x/\x<i then x-h+1 else -1
def loI(p:Pg)(j:Nat):Int:=(QC p.A j:Nat)+1
def hiI(p:Pg)(j:Nat)(f:Pr):Int:=(QC p.A j+QY f.body:Nat)+1
theorem Z2(w:Way)(f:Pr)(q:w.p.A[w.j]?=some f)(s:cntP w.p.A<=1000)(t:0<=w.n/\w.n<=5000)(x:Int):aP 167 [.ip w.cells,.int .i64 x] (.int .i64 (KU (loI w.p w.j) (hiI w.p w.j f) w.n x)):=by
 refine sC DG func167 ?_;conv=>whnf
 obtain⟨_,_,_,o,l⟩:=QU w.p;obtain⟨i,h,r,_⟩:=l w.j f q;repeat' ((first|refine dA ?_|refine wI ?_|refine IdxK.at rfl (UM i) rfl ?_|refine IdxK.at rfl (UM h) rfl ?_|(apply bD<;>intro _<;>try omega))<;>conv=>whnf)
 all_goals exact RetK.int (by unfold KU loI hiI;(repeat' split)<;>omega)
theorem Pe(p:Pg)(j:Nat)(f:Pr)(n:Int)(h:AV)(r:List AV)(s:p.A[j]?=some f)(u:cntP p.A<=1000)(v:0<=n/\n<=5000)(x:Int):
  aH 167 [.ptr 1000 0,.j x] (q5s p j n h r) (.p (.int .i64 (KU (loI p j) (hiI p j f) n x))) (q5s p j n h r):=by
 obtain⟨_,_,_,q,o⟩:=QU p;obtain⟨l,i,t,_⟩:=o j f s;refine sK DG func167 ?_;conv=>whnf
 repeat' ((first|refine dA ?_|refine wI ?_|refine IdxK.at rfl (UM l) rfl ?_|refine IdxK.at rfl (UM i) rfl ?_|(apply bD<;>intro _<;>try omega))<;>conv=>whnf)
 all_goals exact⟨_,z3x (Sub.int (by unfold KU loI hiI;(repeat' split)<;>omega)),rfl,rfl⟩
def avP(l:List (Int×Int)):List AV:=l.map fun x=>.agg [.int .i64 x.1,.int .i64 x.2]
def ixP(p:Pg)(j:Nat)(f:Pr)(n:Int)(s:Step):Int×Int:=(KU (loI p j) (hiI p j f) n s.src,KU (loI p j) (hiI p j f) n s.dst)
theorem WO(w:Way)(f:Pr)(x:w.p.A[w.j]?=some f)(v:cntP w.p.A<=1000)(y:0<=w.n/\w.n<=5000)(l:List Step)(t:l.length<=1000000):aP 125 [.ip w.cells,eSteps l] (.sl (avP (l.map (ixP w.p w.j f w.n)))):=by
 refine sC DH func125 ?_;conv=>whnf
 repeat' ((refine iM fun _=>?_)<;>conv=>whnf)
 have z:(l.map fun s=>AV.agg s.cells).length=l.length:=x8g _;refine lJ (fun i:Nat×List (Int×Int)=>⟨[(0,.p (.ip w.cells)),(5,.hd 0 0 i.2.length),(8,.p (eSteps l)),(9,.p (.int .i64 (l.map fun s=>AV.agg s.cells).length)),(10,.j i.1)],[(0,.own 136 2 (avP i.2))]⟩) (fun i=>i.1<=l.length/\i.2=(l.take i.1).map (ixP w.p w.j f w.n)) (fun i=>l.length-i.1) (0,[]) (lM [(0,.own 136 2 [])]) ⟨x8m _,rfl⟩ ?_;rintro⟨m,h⟩ ⟨u,o⟩;simp only at u o⊢;rcases x8a m l.length with q|q;rotate_left 1
 ·rw[x9q q]at o;subst o;conv=>whnf
  repeat' (apply bD<;>intro _<;>first|omega|conv=>whnf)
  exact⟨_,.hd rfl (by simp[avP]),rfl⟩
 have r:h.length=m:=by rw[o];simp;omega
 conv=>whnf
 repeat' ((first|refine dA ?_|(refine gX ?_;intros)|refine cP (Z2 w f x v y _) ?_|refine pA 1 16 (by simp[avP]) ?_|(apply bD<;>intro _<;>try omega))<;>conv=>whnf)
 exact⟨(m+1,h++[ixP w.p w.j f w.n l[m]]),⟨by simp only;omega,by simp only;rw[o,x8c q,x8i];rfl⟩,by simp only;omega,Le.of_eq (by simp only[avP,x8d,x8i];rfl)⟩
def V6{P:Program}{f:FuncId}{args:List LV}{H n:Heap}{e:TypeId}{sz:Nat}{Q:List AV->Prop}(z:Xb 0 n fun H=>H=n)(h:SpecH P f args H (fun r H'=>∃es,r=.hd 0 0 es.length/\H'=(0,.own e sz es)::n/\Q es)):SpecH P f args H (fun r H'=>∃es,r=.p (.sl es)/\H'=n/\Q es):=by
 refine⟨h.go,fun σ β w a C D F=>(h.ok σ β w a C D F).mono fun L w' J=>?_⟩;obtain⟨l,u,σ',β',H',I,⟨es,rfl,rfl,G⟩,y,v,q⟩:=J;obtain⟨s',rfl,A⟩:=Le.row (N:=1) (s:=⟨[(0,.hd 0 0 es.length)],(0,.own e sz es)::n⟩) (k:=0) (e:=e) (sz:=sz) (es:=es) (zs:=[0]) rfl (K:=fun s=>s=⟨[(0,.p (.sl es))],n⟩) (by
  show LenK es.length es _;refine⟨rfl,?_⟩;show Xb 0 n fun H=>(⟨[(0,.p (.sl es))],H⟩:St)=⟨[(0,.p (.sl es))],n⟩;have key:∀{H1:Heap}{K b:Heap->Prop},(∀H,K H->b H)->Xb 0 H1 K->Xb 0 H1 b:=fun {H1}=>by
   induction H1 with
   |nil=>intro K b o h;exact o _ h
   | cons x r d=>
     intro K b o h;obtain⟨j,c⟩:=x;simp only[Xb]at h⊢;cases B:j==0 with
     | true=>
       simp only[B,x9y]at h⊢;exact d o h
     | false=>
       simp only[B,x9p]at h⊢;cases c with
       |obj e ls=>simp only[VH]at h⊢;exact d (fun H hH=>o _ hH) h
       |own e sz es=>exact d (fun H hH=>o _ hH) h
       |ext x=>exact d (fun H hH=>o _ hH) h
  exact key (fun H hH=>by rw[hH]) z)
 obtain⟨σ2,β2,t,g⟩:=A σ' β' {tmps:=#[u],defers:=[]} w' ⟨rfl,rfl,fun i=>by
  match i with
  |0=>simpa[getS]using y
  |i+1=>exact .p (by simpa[getS]using Rep.any _),v⟩
 exact⟨.p (.sl es),u,σ2,β2,n,I,⟨es,rfl,rfl,G⟩,by simpa[getS]using t.E 0,t.heap,q.trans g⟩
theorem Pi(p:Pg)(j:Nat)(f:Pr)(n:Int)(h:AV)(t:List AV)(z:p.A[j]?=some f)(y:cntP p.A<=1000)(a:0<=n/\n<=5000)(l:List Step)(w:l.length<=1000000):
  SpecH prog 125 [.ptr 1000 0,.p (eSteps l)] (q5s p j n h t) (fun r H=>∃es,r=.p (.sl es)/\H=q5s p j n h t/\es=avP (l.map (ixP p j f n))):=by
 refine V6 (e:=136) (sz:=2) rfl ?_;refine sK DH func125 ?_;conv=>whnf
 repeat' ((refine iM fun _=>?_)<;>conv=>whnf)
 have b:(l.map fun s=>AV.agg s.cells).length=l.length:=x8g _;refine lJ (fun i:Nat×List (Int×Int)=>⟨[(0,.ptr 1000 0),(5,.hd 0 0 i.2.length),(8,.p (eSteps l)),(9,.p (.int .i64 (l.map fun s=>AV.agg s.cells).length)),(10,.j i.1)],(0,.own 136 2 (avP i.2))::q5s p j n h t⟩) (fun i=>i.1<=l.length/\i.2=(l.take i.1).map (ixP p j f n)) (fun i=>l.length-i.1) (0,[]) (lM [(0,.own 136 2 [])] (hnd:=by simp[q5s])) ⟨x8m _,rfl⟩ ?_;rintro⟨m,o⟩ ⟨x,q⟩;simp only at x q⊢;rcases x8a m l.length with u|u;rotate_left 1
 ·rw[x9q u]at q;subst q;conv=>whnf
  repeat' (apply bD<;>intro _<;>first|omega|conv=>whnf)
  exact⟨_,x9j _,avP (l.map (ixP p j f n)),by simp[avP],rfl,rfl⟩
 have v:o.length=m:=by rw[q];simp;omega
 conv=>whnf
 repeat' ((first|refine dA ?_|(refine gX ?_;intros)|refine pA 1 16 (by simp[avP]) ?_|(apply bD<;>intro _<;>try omega)|(refine cH [(1000,1000),(2000,2000)] 0 (Pe p j f n h t z y a _) ?_))<;>conv=>whnf)
 exact⟨(m+1,o++[ixP p j f n l[m]]),⟨by simp only;omega,by simp only;rw[q,x8c u,x8i];rfl⟩,by simp only;omega,lE (hnd:=by simp[q5s]) (hsl:=.r (.cons (.of_eq (by simp only[x8d];rfl)) (.r (.r (.cons (.of_eq rfl) .nil))))) (hH:=.cons rfl (.of_eq (by simp only[avP,x8i];rfl)) (.cons rfl (.refl _) (.cons rfl (.refl _) .nil)))⟩
theorem Tx{l:List Int}{x:Int}(h:l.Pairwise (· <= ·)):(Vf l (l.countP (· < x)) x).Pairwise (· <= ·):=by
 induction l with
 |nil=>simp[Vf]
 | cons a r o=>
   obtain⟨j,n⟩:=z1p.1 h;by_cases ha:a<x
   ·have e:Vf (a::r) ((a::r).countP (· < x)) x=a::Vf r (r.countP (· < x)) x:=by
     unfold Vf;rw[List.countP_cons_of_pos (by simpa using ha)];rfl
    rw[e,z1p];refine⟨fun b i=>?_,o n⟩;unfold Vf at i;rcases x8e.1 i with i|i
    ·exact j b (z3c i)
    ·rcases x8r.1 i with rfl|i
     ·omega
     ·exact j b (List.mem_of_mem_drop i)
   ·have e0:(a::r).countP (· < x)=0:=by
     rw[List.countP_eq_zero];intro b i;rcases x8r.1 i with rfl|i
     ·simpa using ha
     ·have:=j b i;simp;omega
    rw[e0];show(x::a::r).Pairwise (· <= ·);refine z1p.2 ⟨fun b i=>?_,h⟩;rcases x8r.1 i with rfl|i
    ·omega
    ·have:=j b i;omega
def Jd(n m:Nat)(N:List (List Int)):Prop:=N.length=n/\∀r∈N,r.Pairwise (· <= ·)/\r.length<=m
theorem Mh{n:Nat}(h:Jd n m N)(a:Nat)(b:Int):Jd n (m+1) (D0 N a b):=by
 unfold D0;refine⟨by rw[z0m];exact h.1,fun r j=>?_⟩;rcases z1d j with j|rfl
 ·obtain⟨i,l⟩:=h.2 r j;exact⟨i,by omega⟩
 ·rcases x8a a N.length with ha|ha
  ·have o:N.getD a []∈N:=by
    rw[x8f,x8h ha];exact x8o ha
   obtain⟨i,l⟩:=h.2 _ o;exact⟨Tx i,by rw[Ua z5q];omega⟩
  ·have:N.getD a []=[]:=by simp[z0d ha]
   rw[this];exact⟨by simp[Vf],by simp[Vf]⟩
def Fg{n j:Nat}(h:Jd n m N)(l:m<=j):Jd n j N:=⟨h.1,fun r i=>⟨(h.2 r i).1,x9r (h.2 r i).2 l⟩⟩
def N4(n:Nat)(g:List (List Int)×List (List Int))(e:Int×Int):List (List Int)×List (List Int):=
 bif ZT n e.1&&ZT n e.2 && !(g.1.getD e.1.toNat []).contains e.2 then(D0 g.1 e.1.toNat e.2,D0 g.2 e.2.toNat e.1)else g
def QA(n:Nat)(l:List (Int×Int)):List (List Int)×List (List Int):=l.foldl (N4 n) (List.replicate n [],List.replicate n [])
def eMat(m:List (List Int)):AV:=.sl ((avI m).map .sl)
def UQ(g:List (List Int)×List (List Int)):AV:=.ip [eMat g.1,eMat g.2]
def Yd(n:Nat)(g:List (List Int)×List (List Int))(e:Int×Int):(N4 n g e).1=bif ZT n e.1&&ZT n e.2 && !(g.1.getD e.1.toNat []).contains e.2 then D0 g.1 e.1.toNat e.2 else g.1:=by
 unfold N4;cases ZT n e.1&&ZT n e.2 && !(g.1.getD e.1.toNat []).contains e.2<;>rfl
def Hp(n:Nat)(g:List (List Int)×List (List Int))(e:Int×Int):(N4 n g e).2=bif ZT n e.1&&ZT n e.2 && !(g.1.getD e.1.toNat []).contains e.2 then D0 g.2 e.2.toNat e.1 else g.2:=by
 unfold N4;cases ZT n e.1&&ZT n e.2 && !(g.1.getD e.1.toNat []).contains e.2<;>rfl
theorem q1z{n:Nat}{g:List (List Int)×List (List Int)}(h:Jd n m g.1/\Jd n m g.2)(e:Int×Int):Jd n (m+1) (N4 n g e).1/\Jd n (m+1) (N4 n g e).2:=by
 rw[Yd,Hp];cases ZT n e.1&&ZT n e.2 && !(g.1.getD e.1.toNat []).contains e.2
 ·exact⟨Fg h.1 (by omega),Fg h.2 (by omega)⟩
 ·exact⟨Mh h.1 _ _,Mh h.2 _ _⟩
def LQ{n:Nat}{l:List (Int×Int)}(h:m<l.length):QA n (l.take (m+1))=N4 n (QA n (l.take m)) l[m]:=by
 unfold QA;rw[x8c h,z2h];rfl
theorem PB{n:Nat}{l:List (Int×Int)}:∀{m:Nat},m<=l.length->Jd n m (QA n (l.take m)).1/\Jd n m (QA n (l.take m)).2
 | 0,_=>by
   have:Jd n 0 (List.replicate n []):=⟨by simp,fun r i=>by rw[z0s i];simp⟩;exact⟨this,this⟩
 | m+1,h=>by
   rw[LQ h];exact q1z (PB (by omega)) _
def Fm{h:Nat}{sl:List (Nat×LV)}(n a b:Nat)(l:(sl.all fun x=>x.2.xfree 0)=true)(o:(sl.all fun x=>x.2.xfree 1)=true):
  Le h ⟨sl,[(2,.obj 236 [.hd a 0 n,.hd b 0 n]),(1,.own 56 1 (List.replicate n .nils)),(0,.own 56 1 (List.replicate n .nils))]⟩
   ⟨sl,[(2,.obj 236 [.hd a 0 n,.hd b 0 n]),(1,.ext (.mat 56 3 1 (List.replicate n []) [])),(0,.ext (.mat 56 3 1 (List.replicate n []) []))]⟩:=by
 have p:=JB (N:=h) (sl:=sl) (H:=[(2,.obj 236 [.hd a 0 n,.hd b 0 n]),(1,.own 56 1 (List.replicate n .nils)),(0,.own 56 1 (List.replicate n .nils))])
  (H':=[(2,.obj 236 [.hd a 0 n,.hd b 0 n]),(1,.own 56 1 (List.replicate n .nils)),(0,.ext (.mat 56 3 1 (List.replicate (List.replicate n AV.nils).length []) []))])
  0 3 1 (e:=56) (es:=List.replicate n .nils) rfl (fun x j=>z0s j) rfl l rfl rfl (by simp[KK])
 have i:=JB (N:=h) (sl:=sl) (H:=[(2,.obj 236 [.hd a 0 n,.hd b 0 n]),(1,.own 56 1 (List.replicate n .nils)),(0,.ext (.mat 56 3 1 (List.replicate (List.replicate n AV.nils).length []) []))])
  (H':=[(2,.obj 236 [.hd a 0 n,.hd b 0 n]),(1,.ext (.mat 56 3 1 (List.replicate (List.replicate n AV.nils).length []) [])),(0,.ext (.mat 56 3 1 (List.replicate (List.replicate n AV.nils).length []) []))])
  1 3 1 (e:=56) (es:=List.replicate n .nils) rfl (fun x j=>z0s j) rfl o rfl rfl (by simp[KK])
 have:=p.trans i;simpa using this
theorem Jp(n:Nat)(z:n<=5000)(l:List (Int×Int))(y:l.length<=1000000):aP 184 [.int .i64 n,.sl (avP l)] (UQ (QA n l)):=by
 refine sC RJ func184 ?_;conv=>whnf
 repeat' ((first|(refine gX ?_;intros)|refine dA ?_|refine z3k n rfl (by show 24*n<=140737488355328;omega) (by unfold maxLen;omega) ?_|(apply bD<;>intro _<;>try omega)|refine x9g ?_ ?_)<;>conv=>whnf)
 all_goals have a:(avP l).length=l.length:=x8g _
 ·refine lJ (fun m:Nat=>⟨[(5,.ptr (0+1+1) 0),(20,.p (.sl (avP l))),(21,.p (.int .i64 (avP l).length)),(22,.j m)],[(0+1+1,.obj 236 [.hd 0 0 n,.hd (0+1) 0 n]),(0,.ext (.mat 56 3 1 (avI (QA n (l.take m)).1) [])),(0+1,.ext (.mat 56 3 1 (avI (QA n (l.take m)).2) []))]⟩) (fun m=>m<=l.length) (fun m=>l.length-m) 0 (by
    refine Le.trans (Fm n _ _ rfl rfl) ?_;exact lE (hH:=.cons rfl (.refl _) (.cons rfl (.of_eq (by simp[avI,QA])) (.cons rfl (.of_eq (by simp[avI,QA])) .nil)))) (x8m _) ?_
  rintro m w;obtain⟨g1,h⟩:=PB (n:=n) w;rcases x8a m l.length with s|s
  ·have v:(avP l)[m]?=some (.agg [.int .i64 l[m].1,.int .i64 l[m].2]):=by simp[avP,s]
   conv=>whnf
   repeat' ((first|refine x9g rfl ?_|refine wI ?_|refine iT v ?_|refine z1x 0 rfl (by decide) ?_|refine z1x 1 rfl (by decide) ?_|(apply bD<;>intro _<;>try omega)|(refine cJ [(1000,0+1+1),(2001,0),(2002,1)] 0 (Mf n _ _ l[m].1 l[m].2 g1.1 h.1 z (fun r u=>⟨(g1.2 r u).1,by have:=(g1.2 r u).2;omega⟩) (fun r u=>⟨(h.2 r u).1,by have:=(h.2 r u).2;omega⟩)) ?_;rintro l' H' ⟨t,rfl,rfl⟩))<;>conv=>whnf)
   exact⟨m+1,s,by omega,Le.of_eq (by rw[LQ s,Yd,Hp];rfl)⟩
  ·rw[x9q s]at g1 h⊢;conv=>whnf
   repeat' (apply bD<;>intro _<;>first|omega|conv=>whnf)
   exact⟨_,.ptr (cs:=[eMat (QA n l).1,eMat (QA n l).2]) rfl rfl (fun i x c o q=>by
    match i,o,q with
    |0,o,q=>cases o;cases q;exact .mat rfl (by rw[avI,x8g,g1.1])
    |1,o,q=>cases o;cases q;exact .mat rfl (by rw[avI,x8g,h.1])),rfl⟩
 ·refine lJ (fun m:Nat=>⟨[(5,.ptr (0+1+1) 0),(20,.p (.sl (avP l))),(21,.p (.int .i64 (avP l).length)),(22,.j m)],[(0+1+1,.obj 236 [.hd (0+1) 0 n,.hd 0 0 n]),(0+1,.ext (.mat 56 3 1 (avI (QA n (l.take m)).1) [])),(0,.ext (.mat 56 3 1 (avI (QA n (l.take m)).2) []))]⟩) (fun m=>m<=l.length) (fun m=>l.length-m) 0 (by
    refine Le.trans (Fm n _ _ rfl rfl) ?_;exact lE (hH:=.cons rfl (.refl _) (.cons rfl (.of_eq (by simp[avI,QA])) (.cons rfl (.of_eq (by simp[avI,QA])) .nil)))) (x8m _) ?_
  rintro m w;obtain⟨g1,h⟩:=PB (n:=n) w;rcases x8a m l.length with s|s
  ·have v:(avP l)[m]?=some (.agg [.int .i64 l[m].1,.int .i64 l[m].2]):=by simp[avP,s]
   conv=>whnf
   repeat' ((first|refine x9g rfl ?_|refine wI ?_|refine iT v ?_|refine z1x 0 rfl (by decide) ?_|refine z1x 1 rfl (by decide) ?_|(apply bD<;>intro _<;>try omega)|(refine cJ [(1000,0+1+1),(2001,1),(2002,0)] 0 (Mf n _ _ l[m].1 l[m].2 g1.1 h.1 z (fun r u=>⟨(g1.2 r u).1,by have:=(g1.2 r u).2;omega⟩) (fun r u=>⟨(h.2 r u).1,by have:=(h.2 r u).2;omega⟩)) ?_;rintro l' H' ⟨t,rfl,rfl⟩))<;>conv=>whnf)
   exact⟨m+1,s,by omega,Le.of_eq (by rw[LQ s,Yd,Hp];rfl)⟩
  ·rw[x9q s]at g1 h⊢;conv=>whnf
   repeat' (apply bD<;>intro _<;>first|omega|conv=>whnf)
   exact⟨_,.ptr (cs:=[eMat (QA n l).1,eMat (QA n l).2]) rfl rfl (fun i x c o q=>by
    match i,o,q with
    |0,o,q=>cases o;cases q;exact .mat rfl (by rw[avI,x8g,g1.1])
    |1,o,q=>cases o;cases q;exact .mat rfl (by rw[avI,x8g,h.1])),rfl⟩
def GU(st:List Bool×List Int)(b:Int):List Bool×List Int:=bif st.1.getD b.toNat false then st else(st.1.set b.toNat true,st.2++[b])
def ZD(rows:List (List Int)):Nat->Nat->List Bool×List Int->List Bool×List Int
 |0,_,st=>st
 | k+1,i,st=>match st.2[i]?with
   |some a=>ZD rows k (i+1) ((rows.getD a.toNat []).foldl GU st)
   |none=>st
def wkInv(n:Nat)(st:List Bool×List Int):Prop:=st.1.length=n/\st.2.length<=st.1.count true/\∀x∈st.2,0<=x/\x<n
theorem Xl{n:Nat}{st:List Bool×List Int}(h:wkInv n st){b:Int}(q:0<=b/\b<n):wkInv n (GU st b):=by
 unfold GU;obtain⟨l,p,o⟩:=h;have i:b.toNat<st.1.length:=by omega
 cases s:st.1.getD b.toNat false with
 |true=>exact⟨l,p,o⟩
 | false=>
   have r:st.1[b.toNat]=false:=by simpa[i]using s
   refine⟨by simpa using l,?_,fun x j=>?_⟩
   ·simp only[x9p,x8d,x9h];rw[List.count_set i,r];simp;omega
   ·rcases x8e.1 j with j|j
    ·exact o x j
    ·rw[x8l.1 j];exact q
def Iq{n:Nat}{l:List Int}:∀{st:List Bool×List Int},wkInv n st->(∀b∈l,0<=b/\b<n)->wkInv n (l.foldl GU st):=by
 induction l with
 |nil=>intro st h _;exact h
 |cons b r o=>intro st h i;exact o (Xl h (i b x8p)) fun c j=>i c (x8b _ j)
def PW{n:Nat}{st:List Bool×List Int}(h:wkInv n st):st.2.length<=n:=by
 refine x9r h.2.1 ?_;rw[<-h.1];exact List.count_le_length
def XH(n:Nat)(rows:List (List Int)):Prop:=rows.length=n/\∀r∈rows,∀b∈r,0<=b/\b<n
def q0f(st:List Bool×List Int):Heap:=[(1000,.own 4 1 (st.1.map bv)),(2000,.own 3 1 (st.2.map (.int .i64)))]
theorem Fh(n:Nat)(J:n<=5000)(rows:List (List Int))(D:XH n rows)(st:List Bool×List Int)(I:wkInv n st):
  aH 186 [.p (eMat rows),.hd 1000 0 n,.hd 2000 0 st.2.length] (q0f st) (.hd 2000 0 (ZD rows (n+1) 0 st).2.length) (q0f (ZD rows (n+1) 0 st)):=by
 refine sK Nq func186 ?_;conv=>whnf
 skip
 refine lI (fun x:Nat×List Bool×List Int=>⟨[(0,.p (eMat rows)),(1,.hd 1000 0 n),(2,.hd 2000 0 x.2.2.length),(7,.j x.1)],q0f x.2⟩) (fun x=>wkInv n x.2/\x.1<=x.2.2.length/\ZD rows (n+1-x.1) x.1 x.2=ZD rows (n+1) 0 st) (fun x=>n-x.1) (0,st) ⟨I,x8m _,rfl⟩ ?_;rintro⟨i,seen,h⟩ ⟨b,E,o⟩;simp only at b E o⊢;have g:=PW b;simp only at g;rw[show n+1-i=n-i+1 by omega,ZD]at o;rcases x8a i h.length with y|y;rotate_left 1
 ·simp only[z0d y]at o;conv=>whnf
  repeat' ((first|(refine iM fun _=>?_)|(apply bD<;>intro _<;>try omega))<;>conv=>whnf)
  exact⟨_,z3y (by rw[<-o]),rfl,by rw[<-o];rfl⟩
 simp only[x8h y]at o;have K:=b.2.2 _ (x8o y);have w:h[i].toNat<rows.length:=by rw[D.1];omega
 have a:((avI rows).map AV.sl)[h[i].toNat]?=some (.sl (rows[h[i].toNat].map (.int .i64))):=by simp[avI,w]
 have e:rows.getD h[i].toNat []=rows[h[i].toNat]:=by simp[w]
 rw[e]at o;have v:=D.2 _ (x8o w);conv=>whnf
 repeat' ((first|(refine iM fun _=>?_)|refine x9g rfl ?_|refine iO i ?_|refine z5m i 0 (.int .i64 h[i]) (by omega) (by simp[y]) ?_|refine iT a ?_|(apply bD<;>intro _<;>try omega))<;>conv=>whnf)
 have A:(rows[h[i].toNat].map (AV.int .i64)).length<=9223372036854775807:=by assumption
 generalize rows[h[i].toNat]=row at v o A⊢;have H:(row.map (AV.int .i64)).length=row.length:=x8g _;refine lI (fun x:Nat×List Bool×List Int=>⟨[(0,.p (eMat rows)),(1,.hd 1000 0 n),(2,.hd 2000 0 x.2.2.length),(7,.j i),(22,.p (.sl (row.map (.int .i64)))),(23,.p (.int .i64 (row.map (AV.int .i64)).length)),(24,.j x.1)],q0f x.2⟩) (fun x=>wkInv n x.2/\h.length<=x.2.2.length/\x.1<=row.length/\ZD rows (n-i) (i+1) ((row.drop x.1).foldl GU x.2)=ZD rows (n+1) 0 st) (fun x=>row.length-x.1) (0,seen,h) ⟨b,x9z _,x8m _,o⟩ ?_;rintro⟨q,l,t2⟩ ⟨t,B,F,u⟩;simp only at t B F u⊢;have z:=PW t;simp only at z;rcases x8a q row.length with c|c;rotate_left 1
 ·rw[x9v c]at u;conv=>whnf
  repeat' ((first|refine wI ?_|(apply bD<;>intro _<;>try omega))<;>conv=>whnf)
  exact nX (i+1,l,t2) ⟨t,by simp only;omega,by simp only;rw[show n+1-(i+1)=n-i by omega];exact u⟩
 rw[x9t c,z1n]at u;have G:=v _ (x8o c);have C:=Xl t G;have r:row[q].toNat<l.length:=by have:=t.1;simp only at this;omega
 cases s:l.getD row[q].toNat false with
 | true=>
   have d:GU (l,t2) row[q]=(l,t2):=by unfold GU;simp only[s,x9y]
   have e2:(l.map bv)[row[q].toNat]?=some .tt:=by
    have:l[row[q].toNat]=true:=by simpa[r]using s
    simp[r,this,bv]
   rw[d]at u;conv=>whnf
   repeat' ((first|(refine gX ?_;intros)|refine z1x row[q].toNat (by omega) (by have:=t.1;simp only at this;omega) ?_|refine z5m row[q].toNat 0 .tt (by omega) e2 ?_|(apply bD<;>intro _<;>try omega))<;>conv=>whnf)
   all_goals exact nX (q+1,l,t2) ⟨t,B,by simp only;omega,u⟩
 | false=>
   have d:GU (l,t2) row[q]=(l.set row[q].toNat true,t2++[row[q]]):=by unfold GU;simp only[s,x9p]
   have e2:(l.map bv)[row[q].toNat]?=some .ff:=by
    have:l[row[q].toNat]=false:=by simpa[r]using s
    simp[r,this,bv]
   rw[d]at u C;conv=>whnf
   repeat' ((first|(refine gX ?_;intros)|refine z1x row[q].toNat (by omega) (by have:=t.1;simp only at this;omega) ?_|refine z5m row[q].toNat 0 .ff (by omega) e2 ?_|refine z3v row[q].toNat 0 .ff .tt (by omega) e2 (x9z 1) rfl ?_|refine pI ?_|(apply bD<;>intro _<;>try omega))<;>conv=>whnf)
   all_goals exact⟨(q+1,l.set row[q].toNat true,t2++[row[q]]),⟨C,by simp;omega,by simp only;omega,u⟩,by simp only;omega,Le.of_eq (by simp only[q0f,x8d,x8i,z0q];rfl)⟩
def DZ:Nat->List Bool->List Int
 |_,[]=>[]
 |i,b::r=>bif b then(i:Int)::DZ (i+1) r else DZ (i+1) r
theorem Md(seen:List Bool)(t:seen.length<=1000000):
  SpecH prog 187 [.hd 1000 0 seen.length] [(1000,.own 4 1 (seen.map bv))] (fun r H=>∃es,r=.p (.sl es)/\H=[(1000,.own 4 1 (seen.map bv))]/\es=(DZ 0 seen).map (.int .i64)):=by
 refine V6 (e:=3) (sz:=1) rfl ?_;refine sK Ge func187 ?_;conv=>whnf
 repeat' ((refine iM fun _=>?_)<;>conv=>whnf)
 refine lJ (fun i:Nat×List Int=>⟨[(3,.hd 0 0 i.2.length),(6,.hd 1000 0 seen.length),(7,.j seen.length),(8,.j i.1)],[(0,.own 3 1 (i.2.map (.int .i64))),(1000,.own 4 1 (seen.map bv))]⟩) (fun i=>i.1<=seen.length/\i.2.length<=i.1/\i.2++DZ i.1 (seen.drop i.1)=DZ 0 seen) (fun i=>seen.length-i.1) (0,[]) (lM [(0,.own 3 1 [])]) ⟨x8m _,x9z _,rfl⟩ ?_;rintro⟨m,o⟩ ⟨q,s,l⟩;simp only at q s l⊢;rcases x8a m seen.length with n|n;rotate_left 1
 ·rw[x9v n,DZ,x9c]at l;subst l;conv=>whnf
  repeat' (apply bD<;>intro _<;>first|omega|conv=>whnf)
  exact⟨_,x9j _,(DZ 0 seen).map (.int .i64),by simp,rfl,rfl⟩
 rw[x9t n,DZ]at l;cases h:seen[m]with
 | true=>
   rw[h,x9y]at l;have e2:(seen.map bv)[m]?=some .tt:=by simp[n,h,bv]
   conv=>whnf
   repeat' ((first|refine gX ?_|refine z1x m rfl n ?_|refine lO e2 ?_|refine pI ?_|(apply bD<;>intro _<;>try omega))<;>conv=>whnf)
   exact⟨(m+1,o++[(m:Int)]),⟨by simp only;omega,by simp;omega,by simpa using l⟩,by simp only;omega,Le.of_eq (by simp only[x8d,x8i];rfl)⟩
 | false=>
   rw[h,x9p]at l;have e2:(seen.map bv)[m]?=some .ff:=by simp[n,h,bv]
   conv=>whnf
   repeat' ((first|refine gX ?_|refine z1x m rfl n ?_|refine lO e2 ?_|(apply bD<;>intro _<;>try omega))<;>conv=>whnf)
   exact nX (m+1,o) ⟨by simp only;omega,by simp only;omega,l⟩
theorem BW(g:List (List Int)×List (List Int))(a:Int):aP 185 [UQ g,.int .i64 a] (.bool (ZT g.1.length a)):=by
 refine sC GS func185 ?_;conv=>whnf
 repeat' ((first|(refine iM fun _=>?_)|(apply bD<;>intro _<;>try omega))<;>conv=>whnf)
 all_goals have h:((avI g.1).map AV.sl).length=g.1.length:=by simp[avI]
 all_goals first
  |exact RetK.bool (by unfold ZT;simp[*];done)
  |exact RetK.ff (by unfold ZT;simp;omega)
 all_goals trace_state
def BE(n:Nat)(l:List Int):List Bool×List Int:=l.foldl (fun st a=>bif ZT n a then GU st a else st) (List.replicate n false,[])
def WX(rows:List (List Int))(l:List Int):List Bool:=(ZD rows (rows.length+1) 0 (BE rows.length l)).1
def LT(n:Nat):wkInv n (List.replicate n false,[]):=⟨by simp,by simp[List.count_replicate],by simp⟩
theorem PZ{n:Nat}{rows:List (List Int)}(l:XH n rows):∀(k i:Nat){st:List Bool×List Int},wkInv n st->wkInv n (ZD rows k i st)
 |0,_,_,h=>h
 | k+1,i,st,h=>by
   rw[ZD];split
   ·rename_i a ha;have o:=h.2.2 a (x9x ha);refine PZ l k (i+1) (Iq h ?_);have j:a.toNat<rows.length:=by rw[l.1];omega
    rw[x8f,x8h j];exact l.2 _ (x8o j)
   ·exact h
def ZJ{n:Nat}{a:Int}(h:ZT n a=true):0<=a/\a<n:=by
 unfold ZT at h;simpa using h
theorem W2(n:Nat)(D:n<=5000)(g:List (List Int)×List (List Int))(v:XH n g.1)(l:List Int)(c:l.length<=1000000):aP 141 [UQ g,QE l] (QE (DZ 0 (WX g.1 l))):=by
 refine sC NI func141 ?_;conv=>whnf
 have B:((avI g.1).map AV.sl).length=n:=by simp[avI,v.1]
 repeat' ((first|(refine gX ?_;intros)|refine z3k n (by rw[B]) (by show 1*n<=140737488355328;omega) (by unfold maxLen;omega) ?_)<;>conv=>whnf)
 have C:(l.map (AV.int .i64)).length=l.length:=x8g _;refine lJ (fun x:Nat×List Bool×List Int=>⟨[(0,.p (UQ g)),(5,.hd 0 0 n),(6,.hd 1 0 x.2.2.length),(17,.p (QE l)),(18,.p (.int .i64 (l.map (AV.int .i64)).length)),(19,.j x.1)],[(0,.own 4 1 (x.2.1.map bv)),(1,.own 3 1 (x.2.2.map (.int .i64)))]⟩) (fun x=>x.1<=l.length/\wkInv n x.2/\(l.drop x.1).foldl (fun st a=>bif ZT n a then GU st a else st) x.2=BE n l) (fun x=>l.length-x.1) (0,List.replicate n false,[]) (lM [(1,.own 3 1 [])] (hH:=.cons rfl (.of_eq (by rw[z1i];rfl)) (.new x8p .nil))) ⟨x8m _,LT n,rfl⟩ ?_;rintro⟨m,seen,i⟩ ⟨e,s,r⟩;simp only at e s r⊢;have hsl:seen.length=n:=s.1;have E:i.length<=n:=PW s;rcases x8a m l.length with y|y;rotate_left 1
 ·rw[x9v y,List.foldl_nil]at r;conv=>whnf
  repeat' ((first|(apply bD<;>intro _<;>try omega)|(refine cH rH2 0 (Fh n D g.1 v (seen,i) s) ?_))<;>conv=>whnf)
  have z:(ZD g.1 (n+1) 0 (seen,i)).1.length=n:=(PZ v _ _ s).1;refine cJ rH1 0 (Md (ZD g.1 (n+1) 0 (seen,i)).1 (by omega)) ?_ (ha:=(x9d (z3y (by rw[z];rfl)) z1y));rintro l' H' ⟨es,rfl,rfl,rfl⟩;conv=>whnf
  skip
  exact RetK.p (by unfold QE WX;rw[v.1,<-r])
 rw[x9t y,z1n]at r;have t:aP 185 [UQ g,.int .i64 l[m]] (.bool (ZT n l[m])):=by
  have:=BW g l[m]
  rwa[v.1]at this
 cases q:seen.getD l[m].toNat false with
 | true=>
   have u:(bif ZT n l[m]then GU (seen,i) l[m]else(seen,i))=(seen,i):=by unfold GU;simp only[q,x9y];cases ZT n l[m]<;>rfl
   have e2:ZT n l[m]=true->(seen.map bv)[l[m].toNat]?=some .tt:=fun h=>by
    have A:=ZJ h;have o:l[m].toNat<seen.length:=by omega
    have:seen[l[m].toNat]=true:=by simpa[o]using q
    simp[o,this,bv]
   rw[u]at r;conv=>whnf
   repeat' ((first|(refine gX ?_;intros)|refine cP t ?_|refine z1x l[m].toNat (by have:=ZJ (by assumption);omega) (by have:=ZJ (by assumption);omega) ?_|refine z5m l[m].toNat 0 .tt (by omega) (e2 (by assumption)) ?_|((first|apply bD|apply bB)<;>intro _<;>try omega))<;>conv=>whnf)
   all_goals exact nX (m+1,seen,i) ⟨by simp only;omega,s,r⟩
 | false=>
   have e2:ZT n l[m]=true->(seen.map bv)[l[m].toNat]?=some .ff:=fun h=>by
    have A:=ZJ h;have o:l[m].toNat<seen.length:=by omega
    have:seen[l[m].toNat]=false:=by simpa[o]using q
    simp[o,this,bv]
   conv=>whnf
   repeat' ((first|(refine gX ?_;intros)|refine cP t ?_|refine z1x l[m].toNat (by have:=ZJ (by assumption);omega) (by have:=ZJ (by assumption);omega) ?_|refine z5m l[m].toNat 0 .ff (by omega) (e2 (by assumption)) ?_|refine z3v l[m].toNat 0 .ff .tt (by omega) (e2 (by assumption)) (x9z 1) rfl ?_|refine pI ?_|((first|apply bD|apply bB)<;>intro _<;>try omega))<;>conv=>whnf)
   ·have w:ZT n l[m]=true:=by assumption
    have u:(bif ZT n l[m]then GU (seen,i) l[m]else(seen,i))=(seen.set l[m].toNat true,i++[l[m]]):=by unfold GU;simp only[q,w,x9y,x9p]
    have b:=Xl s (ZJ w);rw[u]at r;have d:GU (seen,i) l[m]=(seen.set l[m].toNat true,i++[l[m]]):=by unfold GU;simp only[q,x9p]
    rw[d]at b;exact⟨(m+1,seen.set l[m].toNat true,i++[l[m]]),⟨by simp only;omega,b,r⟩,by simp only;omega,Le.of_eq (by simp only[x8d,x8i,z0q];rfl)⟩
   ·have w:ZT n l[m]=false:=by assumption
    have u:(bif ZT n l[m]then GU (seen,i) l[m]else(seen,i))=(seen,i):=by rw[w];rfl
    rw[u]at r;exact nX (m+1,seen,i) ⟨by simp only;omega,s,r⟩
theorem N0(w:Way)(f:Pr)(n:Nat)(r:w.n=n)(o:w.p.A[w.j]?=some f)(i:cntP w.p.A<=1000)(q:n<=5000)(l:List Step)(h:l.length<=1000000):aP 140 [.ip w.cells,eSteps l] (UQ (QA n (l.map (ixP w.p w.j f w.n)))):=by
 refine sC DF func140 ?_;conv=>whnf
 repeat' ((first|refine dA ?_|refine cP (WO w f o i (by omega) l h) ?_ (ha:=.cons (Sub.refl _) (.cons (Sub.refl _) .nil))|refine cP (Jp n q (l.map (ixP w.p w.j f w.n)) (by rw[x8g];exact h)) ?_ (ha:=.cons (Sub.int r) (.cons (Sub.refl _) .nil)))<;>conv=>whnf)
 exact RetK.p rfl
theorem N1(p:Pg)(j:Nat)(f:Pr)(n:Nat)(h:AV)(o:List AV)(r:p.A[j]?=some f)(q:cntP p.A<=1000)(s:n<=5000)(l:List Step)(i:l.length<=1000000):
  aH 140 [.ptr 1000 0,.p (eSteps l)] (q5s p j n h o) (.p (UQ (QA n (l.map (ixP p j f n))))) (q5s p j n h o):=by
 refine sK DF func140 ?_;conv=>whnf
 refine DrawK.of XD mixed (.cons 0 false (.cons 1 false (.cons 2 false (.cons 4 false (.cons 5 false (.fork 3 (.cons 6 true (.cons 7 true (.cons 8 true .nil))) 6 (.cons 3 true (.cons 7 true (.cons 8 true .nil))))))))) (by kernel_rfl) ?_;conv=>whnf
 repeat' ((first|refine cP (Jp n s (l.map (ixP p j f n)) (by rw[x8g];exact i)) ?_ (ha:=.cons (Sub.refl _) (.cons (Sub.refl _) .nil))|refine x9g ?_ ?_|(refine cJ [(1000,1000),(2000,2000)] 0 (Pi p j f n h o r q (by omega) l i) ?_;rintro l' H' ⟨es,rfl,rfl,rfl⟩))<;>conv=>whnf)
 all_goals exact⟨_,x9j _,rfl,rfl⟩
def D6{n:Nat}(h:XH n N){a:Nat}{b:Int}(p:0<=b/\b<n):XH n (D0 N a b):=by
 unfold D0;refine⟨by rw[z0m];exact h.1,fun r l x i=>?_⟩;rcases z1d l with l|rfl
 .exact h.2 r l x i
 .unfold Vf at i;have o:∀y∈N.getD a [],0<=y/\y<n:=fun y j=>by
   rcases x8a a N.length with ha|ha
   .rw [x8f,x8h ha]at j;exact h.2 _ (x8o ha) y j
   .rw [x8f,z0d ha]at j;cases j
  rcases x8e.1 i with i|i
  .exact o x (z3c i)
  .rcases x8r.1 i with rfl|i
   .exact p
   .exact o x (List.mem_of_mem_drop i)
def q7h{n:Nat}{g:List (List Int)×List (List Int)}(h:XH n g.1/\XH n g.2)(e:Int×Int):XH n (N4 n g e).1/\XH n (N4 n g e).2:=by
 rw[Yd,Hp];cases i:ZT n e.1&&ZT n e.2 && !(g.1.getD e.1.toNat []).contains e.2
 .exact h
 .simp only[x9w]at i;exact⟨D6 h.1 (ZJ i.1.2),D6 h.2 (ZJ i.1.1)⟩
def q2k{n:Nat}(l:List (Int×Int)):∀{g:List (List Int)×List (List Int)},XH n g.1/\XH n g.2->XH n (l.foldl (N4 n) g).1/\XH n (l.foldl (N4 n) g).2:=by
 induction l with
 |nil=>intro g h;exact h
 |cons e r i=>intro g h;exact i (q7h h e)
def KW(n:Nat)(l:List (Int×Int)):XH n (QA n l).1/\XH n (QA n l).2:=by
 have h:XH n (List.replicate n []):=⟨by simp,fun r i=>by rw[z0s i];simp⟩;exact q2k l ⟨h,h⟩
theorem Wr.eq{n m:Int}{K:Int->Prop}(h:n=m)(i : -9223372036854775808<=m)(j:m<=9223372036854775807)(l:K m):Wr .i64 n K:=by
 subst h;exact Wr.i64 i j l
theorem Vv:∀(a:Step)(l:List Step),(XW a l).length<=l.length
 |_,[]=>x9z _
 | a,b::r=>by
   have:=Vv b r;rw[XW];cases ZN b a<;>simp<;>omega
theorem Lx(l:List Step):(VD l).length<=l.length:=by
 unfold VD;rw[<-Wf (l:=l)];cases GY l with
 |nil=>exact x9z _
 | cons a r=>
   have:=Vv a r;simp[MR];omega
def Ip(h:Sheet)(f:Pr)(it:Item):(HY h f it).length<=2:=by
 unfold HY;split<;>(try split)<;>(try split)<;>(try split)<;>(try split)<;>(try split)<;>simp
theorem Vk{α β:Type}{g:α->List β}(h:∀x,(g x).length<=2):∀l:List α,(l.flatMap g).length<=2*l.length
 |[]=>by simp
 | a::r=>by
   have:=Vk h r;have:=h a;rw[z0e,x8d,x9s];omega
theorem Vt(p:Pg)(j:Nat)(f:Pr):(QM p j f).length<=1+2*QY f.body:=by
 unfold QM;have:=Vk (g:=fun it=>(HY (sheetOf p) f it).map (Step.mk it.s.id · 1)) (fun it=>by rw[x8g];exact Ip _ _ _) (itL j 0 (-1) 0 (QC p.A j) f.body);rw[XO]at this;rw[x9s];omega
theorem P0:∀(i:Nat)(l:List Bool)(a:Int),a∈DZ i l->(i:Int)<=a/\a<i+l.length
 |_,[],_,h=>by rw[DZ]at h;cases h
 | i,b::r,a,h=>by
   rw[DZ]at h;have key:a∈DZ (i+1) r->(i:Int)<=a/\a<i+(b::r).length:=fun h=>by
    have:=P0 (i+1) r a h;simp only[x9s];omega
   cases b with
   |false=>exact key h
   | true=>
     rcases x8r.1 h with rfl|h
     ·simp only[x9s];omega
     ·exact key h
def AB(n:Nat)(l:List Int):wkInv n (BE n l):=by
 unfold BE;have:∀(l:List Int)(st:List Bool×List Int),wkInv n st->wkInv n (l.foldl (fun st a=>bif ZT n a then GU st a else st) st):=fun l=>by
  induction l with
  |nil=>intro st h;exact h
  | cons a r j=>
    intro st h;refine j _ ?_;show wkInv n (bif ZT n a then GU st a else st);cases i:ZT n a with
    |true=>exact Xl h (ZJ i)
    |false=>exact h
 exact this l _ (LT n)
def Ar{n:Nat}{rows:List (List Int)}(h:XH n rows)(l:List Int):(WX rows l).length=n:=by
 unfold WX;rw[h.1];exact(PZ h _ _ (AB n l)).1
def KN(l:List Int)(b:List Bool):List Bool:=l.foldl (fun b a=>b.set a.toNat true) b
def QQ(p:Pg)(j:Nat)(f:Pr):Way:=
 let h:=VD (QM p j f);let n:=QY f.body+2
 ⟨p,j,n,h,KN (DZ 0 (WX (QA n (h.map (ixP p j f n))).1 [0])) (List.replicate n false)⟩
theorem q0b(p:Pg)(j:Nat)(f:Pr)(z:p.A[j]?=some f)(E:cntP p.A<=1000)(H:∀it∈itsOf p j f,it.s.kind=7->1<=it.loop/\it.loop<=(sheetOf p).l.length)(B:∀s∈QM p j f,okSt s):aP 77 [.ip (sheetOf p).cells,.int .i64 j] (.ip (QQ p j f).cells):=by
 refine sC Ex func77 ?_;conv=>whnf
 obtain⟨_,_,_,F,D⟩:=QU p;obtain⟨e,y,I,_⟩:=D j f z;repeat' ((first|refine dA ?_|refine x9g rfl ?_|refine aR ?_|refine IdxK.at rfl (UM e) rfl ?_|refine IdxK.at rfl (UM y) rfl ?_|refine cP (U9 p j f z E H B) ?_|refine Wr.eq (m:=QY f.body) (by omega) (by omega) (by omega) ?_|refine Wr.eq (m:=(QY f.body+2:Nat)) (by omega) (by omega) (by omega) ?_|refine z3k (QY f.body+2) rfl (by show 1*_<=140737488355328;omega) (by unfold maxLen;omega) ?_)<;>conv=>whnf)
 have C:(VD (QM p j f)).length<=1000000:=by have:=Lx (QM p j f);have:=Vt p j f;omega
 refine cJ rH2 0 (N1 p j f (QY f.body+2) (eSteps (VD (QM p j f))) (List.replicate (QY f.body+2) .ff) z E (by omega) (VD (QM p j f)) C) ?_ (hH:=x9b (j:=0) rfl rfl (CSub.of_eq (by rw[z0g];rfl)) (x9b (j:=1) rfl rfl (CSub.refl _) z0r));rintro l' H' ⟨rfl,rfl⟩;conv=>whnf
 obtain⟨q,_⟩:=KW (QY f.body+2) ((VD (QM p j f)).map (ixP p j f (QY f.body+2:Nat)));repeat' ((first|(refine gX ?_;intros)|refine cP (W2 (QY f.body+2) (by omega) _ q [0] (by simp)) ?_ (ha:=.cons (Sub.refl _) (.cons (Sub.refl _) .nil)))<;>conv=>whnf)
 have r:∀a∈DZ 0 (WX (QA (QY f.body+2) ((VD (QM p j f)).map (ixP p j f (QY f.body+2:Nat)))).1 [0]),0<=a/\a<(QY f.body+2:Nat):=fun a ha=>by
  have:=P0 _ _ _ ha;rw[Ar q]at this;omega
 have g:QQ p j f=⟨p,j,(QY f.body+2:Nat),VD (QM p j f),KN (DZ 0 (WX (QA (QY f.body+2) ((VD (QM p j f)).map (ixP p j f (QY f.body+2:Nat)))).1 [0])) (List.replicate (QY f.body+2) false)⟩:=rfl;rw[g];have d:((DZ 0 (WX (QA (QY f.body+2) ((VD (QM p j f)).map (ixP p j f (QY f.body+2:Nat)))).1 [0])).map (AV.int .i64)).length<=9223372036854775807:=by assumption
 generalize DZ 0 (WX (QA (QY f.body+2) ((VD (QM p j f)).map (ixP p j f (QY f.body+2:Nat)))).1 [0])=lst at r d⊢;have J:(lst.map (AV.int .i64)).length=lst.length:=x8g _;refine lJ (fun x:Nat×List Bool=>⟨[(5,.ptr 0 0),(46,.p (QE lst)),(47,.p (.int .i64 (lst.map (AV.int .i64)).length)),(48,.j x.1)],[(0,.obj 103 [.p (.ip (sheetOf p).cells),.j j,.j (QY f.body+2:Nat),.p (eSteps (VD (QM p j f))),.hd 1 0 (QY f.body+2)]),(1,.own 4 1 (x.2.map bv))]⟩) (fun x=>x.1<=lst.length/\x.2.length=QY f.body+2/\KN (lst.drop x.1) x.2=KN lst (List.replicate (QY f.body+2) false)) (fun x=>lst.length-x.1) (0,List.replicate (QY f.body+2) false) (Le.of_eq (by simp only[z1i,z0g];rfl)) ⟨x8m _,by simp,rfl⟩ ?_;rintro⟨m,b⟩ ⟨G,u,o⟩;simp only at G u o⊢;rcases x8a m lst.length with t|t;rotate_left 1
 ·rw[x9v t]at o;rw[<-o];conv=>whnf
  repeat' (apply bD<;>intro _<;>first|omega|conv=>whnf)
  exact⟨_,.ptr (cs:=[.ip (sheetOf p).cells,.int .i64 j,.int .i64 (QY f.body+2:Nat),eSteps (VD (QM p j f)),.sl (b.map bv)]) rfl rfl (fun i x c h n=>by
   match i,h,n with
   |0,h,n=>cases h;cases n;exact .p (Sub.refl _)
   |1,h,n=>cases h;cases n;exact .p (Sub.refl _)
   |2,h,n=>cases h;cases n;exact .p (Sub.refl _)
   |3,h,n=>cases h;cases n;exact .p (Sub.refl _)
   |4,h,n=>cases h;cases n;exact .hd rfl (by rw[x8g,u])),rfl⟩
 rw[x9t t]at o;have ha:=r _ (x8o t);have v:lst[m].toNat<b.length:=by omega
 have w:(b.map bv)[lst[m].toNat]?=some (bv b[lst[m].toNat]):=by simp[v]
 conv=>whnf
 repeat' ((first|(refine gX ?_;intros)|refine z1x lst[m].toNat (by omega) (by omega) ?_|refine z3v lst[m].toNat 0 (bv b[lst[m].toNat]) .tt (by omega) w (x9z 1) (by cases b[lst[m].toNat]<;>rfl) ?_|(apply bD<;>intro _<;>try omega))<;>conv=>whnf)
 exact⟨(m+1,b.set lst[m].toNat true),⟨by simp only;omega,by simp only[z0m];exact u,o⟩,by simp only;omega,Le.of_eq (by simp only[z0q];rfl)⟩
theorem QG{p:Pg}(h:QL p=true):KT p=true/\(QO p).1=0/\(YM p).1=0/\(Uw p).1=0/\(Qj p).1=0:=by
 unfold QL q5e at h;simp only[z0w]at h;by_cases i:KT p=false
 ·rw[if_pos i]at h;cases h
 rw[if_neg i]at h;by_cases j:(QO p).1=0
 ·rw[if_neg (by omega)]at h;by_cases l:(YM p).1=0
  ·rw[if_neg (by omega)]at h;by_cases n:(Uw p).1=0
   ·rw[if_neg (by omega)]at h;exact⟨by simpa using i,j,l,n,h⟩
   ·rw[if_pos n]at h;exact absurd h n
  ·rw[if_pos l]at h;exact absurd h l
 ·rw[if_pos j]at h;exact absurd h j
theorem Jo{f:Pr}:∀(l:List Item)(seen:List Str){s:List Str},NG f l seen=.ok s->∀it∈l,GV f it=true
 |[],_,_,_,it,h=>by cases h
 | a::r,seen,s,h,it,i=>by
   rw[NG]at h;cases n:KJ seen a.s.Z with
   |none=>rw[n]at h;cases h
   | some o=>
     rw[n]at h;simp only at h;cases j:GV f a with
     |false=>rw[j]at h;cases h
     | true=>
       rw[j,x9y]at h;rcases x8r.1 i with rfl|i
       .exact j
       .exact Jo r o h it i
theorem Hw{p:Pg}(r:(QO p).1=0)(h:(Uw p).1=0){j:Nat}(l:p.A[j]?=some f):∀it∈itsOf p j f,GV f it=true:=by
 unfold Uw at h;rw[if_neg (by omega)]at h;have n:(List.range p.A.length).findSome? (GZ p)=none:=by
  cases q:(List.range p.A.length).findSome? (GZ p)with
  |none=>rfl
  |some a=>rw[q]at h;cases h
 rw[List.findSome?_eq_none_iff]at n;have i:j<p.A.length:=(x8t.1 l).1;have:=n j (z0t.2 i);unfold GZ at this;rw[l]at this;simp only at this;cases o:NG f (itL (j:Nat) 0 (-1) 0 (QC p.A j) f.body) []with
 |error id=>rw[o]at this;cases this
 |ok seen=>exact Jo _ _ o
mutual
theorem q2j:∀(t u v:S),u∈flS t->v∈u.M\/v∈u.V->v∈flS t
 | .mk id kind Z name C x has args M V,u,v,h,hv=>by
   rw[flS]at h⊢;rcases x8r.1 h with rfl|h
   ·refine x8b _ (x8e.2 ?_);rcases hv with hv|hv
    ·exact .inl (Bh M v hv)
    ·exact .inr (Bh V v hv)
   ·rcases x8e.1 h with h|h
    ·exact x8b _ (x8e.2 (.inl (Ur M u v h hv)))
    ·exact x8b _ (x8e.2 (.inr (Ur V u v h hv)))
theorem Ur:∀(l:List S)(u v:S),u∈flL l->v∈u.M\/v∈u.V->v∈flL l
 |[],u,v,h,hv=>by rw[flL]at h;cases h
 | t::r,u,v,h,hv=>by
   rw[flL]at h⊢;rcases x8e.1 h with h|h
   ·exact x8e.2 (.inl (q2j t u v h hv))
   ·exact x8e.2 (.inr (Ur r u v h hv))
end
def BU{p:Pg}{j:Nat}(h:it∈itsOf p j f):it.s∈flL f.body:=by
 unfold itsOf at h;rw[<-W3 (j:Nat) 0 (-1) 0 (QC p.A j) f.body];exact x8s.2 ⟨it,h,rfl⟩
theorem VS{p:Pg}(o:KT p=true){j:Nat}(n:p.A[j]?=some f){t:S}(h:t∈flL f.body):(QC p.A j:Int)+1<=t.id/\t.id<=(QC p.A j+QY f.body:Nat):=by
 have i:=IM o n;have l:t.id∈KO (QC p.A j) (QY f.body):=by
  rw[<-i];exact x8s.2 ⟨t,h,rfl⟩
 have:=q2m l;omega
def Jc{p:Pg}{j:Nat}(h:it∈itsOf p j f):okI (QC p.A j) (QC p.A j+QY f.body) it.next/\(it.loop=0\/((QC p.A j:Int)+1<=it.loop/\it.loop<=(QC p.A j+QY f.body:Nat))):=
 Bs (j:Nat) _ _ f.body 0 (-1) 0 _ it h (.inl rfl) (.inl rfl) (x9z _) (x9z _)
theorem Xr{p:Pg}{j:Nat}(q:p.A[j]?=some f)(s:QC p.A j<=k)(t:k<QC p.A j+QY f.body):∃it,(sheetOf p).l[k]?=some it/\it∈itsOf p j f:=by
 obtain⟨_,_,_,n,h⟩:=QU p;obtain⟨_,_,r,o⟩:=h j f q;have i:k<(sheetOf p).l.length:=by omega
 refine⟨(sheetOf p).l[k],x8h i,?_⟩;unfold itsOf;rw[<-o];refine z1g.2 ⟨k-QC p.A j,?_⟩;rw[z0p,z0u,if_pos (by omega),show QC p.A j+(k-QC p.A j)=k by omega,x8h i]
theorem q8u{p:Pg}(B:KT p=true){j:Nat}(c:p.A[j]?=some f)(h:it∈itsOf p j f)(q:GV f it=true):∀x∈HY (sheetOf p) f it,okI (QC p.A j) (QC p.A j+QY f.body) x:=by
 obtain⟨y,g⟩:=Jc h;have E:=BU h;have e:=VS B c E;have n:∀(l:List S)(o:Int),(∀v∈l,v∈it.s.M\/v∈it.s.V)->okI (QC p.A j) (QC p.A j+QY f.body) o->okI (QC p.A j) (QC p.A j+QY f.body) (A2 l o):=fun l o a H=>by
  cases l with
  |nil=>exact H
  |cons v r=>exact .inr (VS B c (Ur f.body it.s v E (a v x8p)))
 have w:it.s.kind=7\/it.s.kind=8->(QC p.A j:Int)+1<=it.loop/\it.loop<=(QC p.A j+QY f.body:Nat):=fun z=>by
  unfold GV at q;rw[if_pos z]at q;rcases g with d|d
  ·rw[d]at q;cases q
  ·exact d
 intro x i;unfold HY at i;split at i
 ·simp only[x8r,z3w,or_false]at i;rcases i with rfl|rfl
  ·exact n _ _ (fun v a=>.inl a) y
  ·exact n _ _ (fun v a=>.inr a) y
 split at i
 ·simp only[x8r,z3w,or_false]at i;rcases i with rfl|rfl
  ·exact n _ _ (fun v a=>.inl a) (.inr e)
  ·exact y
 split at i
 ·rename_i z;have F:=w (.inl z);obtain⟨u,C,D⟩:=Xr c (k:=(it.loop-1).toNat) (by omega) (by omega);rw[C]at i;rw[x8l.1 i];exact(Jc D).1
 split at i
 ·rename_i z;rw[x8l.1 i];exact .inr (w (.inr z))
 split at i
 ·rw[x8l.1 i];exact .inl rfl
 split at i
 ·rename_i J K _ z;rw[x8l.1 i];unfold GV at q;rw[if_neg (by omega),if_pos z]at q;unfold atB at q⊢;split
  ·rename_i t I;exact .inr (VS B c (z2o I))
  ·rename_i G;rw[G]at q;simp only at q;cases b:f.fin.any fun s=>it.s.name==s with
   |true=>exact .inl rfl
   |false=>rw[b]at q;cases q
 ·rw[x8l.1 i];exact y
theorem Zc{p:Pg}(h:QL p=true){j:Nat}(q:p.A[j]?=some f):(∀it∈itsOf p j f,it.s.kind=7->1<=it.loop/\it.loop<=(sheetOf p).l.length)/\
  (∀s∈QM p j f,(s.src=0\/((QC p.A j:Int)+1<=s.src/\s.src<=(QC p.A j+QY f.body:Nat)))/\okI (QC p.A j) (QC p.A j+QY f.body) s.dst)/\∀s∈QM p j f,okSt s:=by
 obtain⟨u,c,_,t,_⟩:=QG h;have o:=Hw c t q;obtain⟨_,_,_,x,v⟩:=QU p;obtain⟨_,_,b,_⟩:=v j f q;obtain⟨_,_,z⟩:=WE u;have key:∀s∈QM p j f,(s.src=0\/((QC p.A j:Int)+1<=s.src/\s.src<=(QC p.A j+QY f.body:Nat)))/\okI (QC p.A j) (QC p.A j+QY f.body) s.dst:=fun s n=>by
  unfold QM at n;rcases x8r.1 n with rfl|n
  ·refine⟨.inl rfl,?_⟩;show okI _ _ (if QC p.A j<QC p.A j+QY f.body then((QC p.A j:Nat)+1:Int)else -1);split
   ·exact .inr ⟨by omega,by omega⟩
   ·exact .inl rfl
  ·obtain⟨it,i,e⟩:=x9m.1 n;obtain⟨y,d,rfl⟩:=x8s.1 e;exact⟨.inr (VS u q (BU i)),q8u u q i (o it i) y d⟩
 refine⟨fun it i a=>?_,key,fun s n=>?_⟩
 ·have r:=o it i;unfold GV at r;rw[if_pos (.inl a)]at r;rcases(Jc i).2 with w|w
  ·rw[w]at r;cases r
  ·omega
 ·obtain⟨g,B⟩:=key s n;unfold okSt okI at*
  omega
def Cl(p:Pg)(n:Str):Option Way:=bif QL p then(match p.A.find? (fun f=>f.name==n)with
 |some f=>some (QQ p (p.A.findIdx fun f=>f.name==n) f)
 |none=>none)else none
def x7x:Option Way->AV
 |some w=>.ip w.cells
 |none=>.nilp
def XZ{p:Pg}(h:QL p=true):p.F.length<=16/\p.A.length<=16/\cntP p.A<=200:=WE (QG h).1
def Ss{p:Pg}{n:Str}(h:¬n∈QK p):idxF (fun f=>f.name==n) p.A = -1/\p.A.find? (fun f=>f.name==n)=none:=by
 have j:p.A.any (fun f=>f.name==n)=false:=by
  rw[z4h];intro f i l;exact h (x8s.2 ⟨f,i,by simpa using l⟩)
 refine⟨by unfold idxF;rw[j];rfl,?_⟩;rw[z3h];intro f i;have:=z4h.1 j f i;simpa using this
theorem Tq{p:Pg}{n:Str}(h:n∈QK p):∃(k:Nat) (j:k<p.A.length),idxF (fun f=>f.name==n) p.A=k/\p.A.findIdx (fun f=>f.name==n)=k/\p.A.find? (fun f=>f.name==n)=some p.A[k]/\p.A[k].name=n:=by
 obtain⟨k,j,i,l,o⟩:=YP h;refine⟨k,j,i,?_,l,o⟩;unfold idxF at i;cases ha:p.A.any (fun f=>f.name==n)with
 |true=>rw[ha,x9y]at i;omega
 |false=>rw[ha,x9p]at i;omega
theorem x2n(p:Pg)(o:Fit p)(n:Str):aP 46 [.agg p.cells,.str n] (x7x (Cl p n)):=by
 refine sC q0e func46 ?_;conv=>whnf
 cases h:QL p with
 | false=>
   have e:Cl p n=none:=by unfold Cl;rw[h];rfl
   have r:¬(q5e p).1=0:=by unfold QL at h;simpa using h
   rw[e];repeat' ((first|refine cP (DS p o) ?_|(apply bE<;>intro _<;>try omega))<;>conv=>whnf)
   all_goals first
    |exact RetK.p rfl
    |(exfalso;exact r (by assumption))
 | true=>
   obtain⟨z,v,u⟩:=XZ h;have r:(q5e p).1=0:=by unfold QL at h;simpa using h
   have j:(sheetOf p).p.A=p.A:=by rw[(QU p).1]
   by_cases s:n∈QK p
   ·obtain⟨k,a,q,l,t,y⟩:=Tq s;have e:Cl p n=some (QQ p k p.A[k]):=by unfold Cl;rw[h,t,l];rfl
    have i:p.A[k]?=some p.A[k]:=by simp
    obtain⟨w,_,x⟩:=Zc h i;rw[e];repeat' ((first|refine cP (DS p o) ?_|refine cP (XI _ _) ?_|refine cP (JP p (by omega) (by omega)) ?_ (ha:=.cons (Sub.refl _) .nil)|refine cP (q0b p k p.A[k] i (by omega) w x) ?_ (ha:=.cons (Sub.refl _) (.cons (Sub.int q) .nil))|((first|apply bD|apply bE)<;>intro _<;>try omega))<;>conv=>whnf)
    all_goals rw[j]at*
    all_goals first
     |exact RetK.p rfl
     |(exfalso;omega)
   ·obtain⟨q,l⟩:=Ss s;have e:Cl p n=none:=by unfold Cl;rw[h,l];rfl
    rw[e];repeat' ((first|refine cP (DS p o) ?_|refine cP (XI _ _) ?_|refine cP (JP p (by omega) (by omega)) ?_ (ha:=.cons (Sub.refl _) .nil)|((first|apply bD|apply bE)<;>intro _<;>try omega))<;>conv=>whnf)
    all_goals rw[j]at*
    all_goals first
     |exact RetK.p rfl
     |(exfalso;omega)
def Rt{p:Pg}{n:Str}{w:Way}(h:Cl p n=some w):∃(k:Nat) (f:Pr),p.A[k]?=some f/\w=QQ p k f/\QL p=true/\f.name=n/\p.A.find? (fun f=>f.name==n)=some f:=by
 unfold Cl at h;cases j:QL p with
 |false=>rw[j]at h;cases h
 | true=>
   rw[j,x9y]at h;by_cases l:n∈QK p
   .obtain ⟨k,s,r,o,i,q⟩:=Tq l;rw[i,o]at h;cases h;exact⟨k,p.A[k],by simp,rfl,rfl,q,i⟩
   .rw [(Ss l).2]at h;cases h
def x7z(p:Pg)(k:Nat)(f:Pr):Int:=if QC p.A k<QC p.A k+QY f.body then((QC p.A k:Nat)+1:Int)else -1
end Go.Ab
