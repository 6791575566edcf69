/- LAW: what stands behind a statement, in it, around it, looked up in a flat row. -/
import Derived.Test.YtiaikoimoonlmaaGreatInoB9
import Derived.Test.YtiaikoimoonlmaaGreatInoB10
import Derived.Test.YtiaikoimoonlmaaGreatInoB14
import Derived.Test.YtiaikoimoonlmaaGreatInoB15
import Derived.Test.YtiaikoimoonlmaaGreatInoB16
import Derived.Test.YtiaikoimoonlmaaGreatInoB17
set_option linter.unusedSimpArgs false
set_option linter.unusedVariables false
set_option maxRecDepth 100000
set_option maxHeartbeats 16000000
namespace Go.Ab
open Go.Proofs.Tryz
open Go.Proofs
def itemR (l:List RI) (id:Int):RI:=(l.find? fun x=>decide (x.s.id=id)).getD RI0
def inI (i:Int) (e:Bool) (y:RI):Bool:=decide (y.inn=i)&&(y.els==e)
def stdR (l:List RI) (x:RI):List Int:=(l.filter (inI x.inn x.els)).map fun y=>y.s.id
def nextIn:List Int->Int->Option Int
 | a::b::r,x=>if a=x then some b else nextIn (b::r) x
 | _,_=>none
inductive BehP (l:List RI):Int->Int->Prop
 | next {id v:Int} (h:nextIn (stdR l (itemR l id)) id=some v):BehP l id v
 | exit {id:Int} (h:nextIn (stdR l (itemR l id)) id=none) (h0:(itemR l id).inn=0):BehP l id (-1)
 | loop {id:Int} (h:nextIn (stdR l (itemR l id)) id=none) (h0:(itemR l id).inn≠0) (hk:(itemR l (itemR l id).inn).s.kind=6):BehP l id (itemR l id).inn
 | up {id v:Int} (h:nextIn (stdR l (itemR l id)) id=none) (h0:(itemR l id).inn≠0) (hk:(itemR l (itemR l id).inn).s.kind≠6) (hb:BehP l (itemR l id).inn v):BehP l id v
def v3i (l:List RI) (id:Int) (e:Bool) (o:Int):Int:=((l.find? (inI id e)).map fun y=>y.s.id).getD o
theorem w4e {l:List RI} (hn:(l.map fun x=>x.s.id).Nodup) {x:RI} (hx:x∈l):itemR l x.s.id=x:=by
 unfold itemR;cases hf:l.find? fun y=>decide (y.s.id=x.s.id) with
 | none =>
   have:=u6p.1 hf x hx;simp at this
 | some y =>
   have h1:=u5i hf;have h2:=u7y hf;simp only [u4b] at h2;exact NL hn y h1 x hx h2
mutual
theorem w4k (d i:Int) (e:Bool) : ∀ (t:S) {nest m:Int} {n:Nat},x0y nest n t=some m -> ∀ x∈fuS d i e t,(x.s=t∧x.inn=i∧x.els=e)∨((n:Int)+1<=x.inn∧x.inn<=(n:Int)+ZA t)
 | .mk id kind labels name pr x has args thn els,nest,m,n,h,y,hy=>by
   obtain ⟨_,hid,m1,h3,h4⟩:=WU h;have hid:id=(n:Int)+1:=hid;have hc:ZA (.mk id kind labels name pr x has args thn els)=1+cntL thn+cntL els:=WK _;have hm1:=WG _ _ thn h3;have h3':WV (nest+1) ((n+1:Nat):Int) thn=some m1:=by rw [<- h3];rfl
   have h4':WV (nest+1) ((n+1+cntL thn:Nat):Int) els=some m:=by
    rw [<- h4,hm1];congr 1
   rw [fuS] at hy;rcases u3c.1 hy with rfl|hy
   ·exact .inl ⟨rfl,rfl,rfl⟩
   rcases u3p.1 hy with hy|hy
   ·have:=FQ (d+1) id false thn h3' y hy;refine .inr ?_;rcases this with h5|h5<;>omega
   ·have:=FQ (d+1) id true els h4' y hy;refine .inr ?_;rcases this with h5|h5<;>omega
theorem FQ (d i:Int) (e:Bool) : ∀ (l:List S) {nest m:Int} {n:Nat},WV nest n l=some m -> ∀ x∈fuL d i e l,(x.inn=i)∨((n:Int)+1<=x.inn∧x.inn<=(n:Int)+cntL l)
 | [],_,_,_,_,y,hy=>by rw [fuL] at hy;cases hy
 | t::r,nest,m,n,h,y,hy=>by
   obtain ⟨_,m1,h1,h2⟩:=ZQ h;have hm1:=KL _ _ t h1;have h2':WV nest ((n+ZA t:Nat):Int) r=some m:=by rw [<- h2,hm1];rfl
   have hc:cntL (t::r)=ZA t+cntL r:=by rw [cntL]
   rw [fuL] at hy;rcases u3p.1 hy with hy|hy
   ·rcases w4k d i e t h1 y hy with h5|h5
    ·exact .inl h5.2.1
    ·refine .inr ?_;omega
   ·rcases FQ d i e r h2' y hy with h5|h5
    ·exact .inl h5
    ·refine .inr ?_;omega
end
theorem VZ {α:Type} {l:List α} {q:α->Bool} (h : ∀ x∈l,q x=false):l.filter q=[]:=by
 rw [List.filter_eq_nil_iff];intro x hx;rw [h x hx];decide
theorem q3r {i:Int} {e:Bool} {y:RI} (h:y.inn≠i):inI i e y=false:=by
 unfold inI;rw [u5h h];rfl
theorem v3a {i:Int} {e:Bool} {y:RI} (h:y.els≠e):inI i e y=false:=by
 unfold inI;rw [u8b.2 h];exact Bool.and_false _
theorem v3e {i:Int} {e:Bool} {y:RI} (h:y.inn=i) (h':y.els=e):inI i e y=true:=by
 unfold inI;rw [u5z h,h'];simp
theorem w9u (d i:Int) (e:Bool) : ∀ (l:List S) {nest m:Int} {n:Nat},WV nest n l=some m->i<=n->((fuL d i e l).filter (inI i e)).map (fun y=>y.s.id)=l.map S.id
 | [],_,_,_,_,_=>by rw [fuL];rfl
 | t::r,nest,m,n,h,hi=>by
   obtain ⟨_,m1,h1,h2⟩:=ZQ h;obtain ⟨_,hid,m2,h3,h4⟩:=WU h1;have hm1:=KL _ _ t h1;have h2':WV nest ((n+ZA t:Nat):Int) r=some m:=by rw [<- h2,hm1];rfl
   have hm2:=WG _ _ t.thn h3;have h3':WV (nest+1) ((n+1:Nat):Int) t.thn=some m2:=by rw [<- h3];rfl
   have h4':WV (nest+1) ((n+1+cntL t.thn:Nat):Int) t.els=some m1:=by rw [<- h4,hm2];congr 1
   have hn1:=VZ (l:=fuL (d+1) t.id false t.thn) (q:=inI i e) fun x hx=>q3r (by rcases FQ _ _ _ _ h3' x hx with h5|h5<;>omega);have hn2:=VZ (l:=fuL (d+1) t.id true t.els) (q:=inI i e) fun x hx=>q3r (by rcases FQ _ _ _ _ h4' x hx with h5|h5<;>omega);rw [fuL,x5v,u7i,u5u (show inI i e (⟨t,d,i,e⟩:RI)=true from v3e rfl rfl),u4a,u4a,hn1,hn2,u4e,u6u,u4m,w9u d i e r h2' (by omega),u4m]
theorem x1e (d i:Int) (e e':Bool) (he:e≠e') : ∀ (l:List S) {nest m:Int} {n:Nat},WV nest n l=some m->i<=n->(fuL d i e l).filter (inI i e')=[]
 | [],_,_,_,_,_=>by rw [fuL];rfl
 | t::r,nest,m,n,h,hi=>by
   obtain ⟨_,m1,h1,h2⟩:=ZQ h;obtain ⟨_,hid,m2,h3,h4⟩:=WU h1;have hm1:=KL _ _ t h1;have h2':WV nest ((n+ZA t:Nat):Int) r=some m:=by rw [<- h2,hm1];rfl
   have hm2:=WG _ _ t.thn h3;have h3':WV (nest+1) ((n+1:Nat):Int) t.thn=some m2:=by rw [<- h3];rfl
   have h4':WV (nest+1) ((n+1+cntL t.thn:Nat):Int) t.els=some m1:=by rw [<- h4,hm2];congr 1
   have hn1:=VZ (l:=fuL (d+1) t.id false t.thn) (q:=inI i e') fun x hx=>q3r (by rcases FQ _ _ _ _ h3' x hx with h5|h5<;>omega);have hn2:=VZ (l:=fuL (d+1) t.id true t.els) (q:=inI i e') fun x hx=>q3r (by rcases FQ _ _ _ _ h4' x hx with h5|h5<;>omega);rw [fuL,x5v,u7i,u5v (by rw [v3a he];decide),u4a,u4a,hn1,hn2,u4e,u6u,x1e d i e e' he r h2' (by omega)]
mutual
theorem v9k (d i:Int) (e:Bool) : ∀ (t:S) {nest m:Int} {n:Nat},x0y nest n t=some m->i<=n -> ∀ u∈flS t,∀ b,((fuS d i e t).filter (inI u.id b)).map (fun y=>y.s.id)=(bif b then u.els else u.thn).map S.id
 | .mk id kind labels name pr x has args thn els,nest,m,n,h,hi,u,hu,b=>by
   obtain ⟨_,hid,m1,h3,h4⟩:=WU h;have hid:id=(n:Int)+1:=hid;have hm1:=WG _ _ thn h3;have h3':WV (nest+1) ((n+1:Nat):Int) thn=some m1:=by rw [<- h3];rfl
   have h4':WV (nest+1) ((n+1+cntL thn:Nat):Int) els=some m:=by
    rw [<- h4,hm1];congr 1
   have rg : ∀ {l:List S} {q:Nat} {nest m:Int},WV nest q l=some m -> ∀ u∈flL l,(q:Int)+1<=u.id∧u.id<=(q:Int)+cntL l:=fun {l q nest m} hr u hu=>by
    have h2:u.id∈KT q (cntL l):=by
     rw [<- KM nest l hr];exact u3s.2 ⟨u,hu,rfl⟩
    have:=q9s h2;omega
   have hne:u.id≠i:=by
    rw [flS] at hu;rcases u3c.1 hu with rfl|hu
    ·show id≠i;omega
    rcases u3p.1 hu with hu|hu
    ·have:=rg h3' u hu;omega
    ·have:=rg h4' u hu;omega
   rw [fuS,u5v (by rw [q3r (u8z hne)];decide),u4a,u3t];rw [flS] at hu;rcases u3c.1 hu with rfl|hu
   ·show List.map _ (List.filter (inI id b) _)++List.map _ (List.filter (inI id b) _)=_;cases b with
    | true=>rw [x1e (d+1) id false true (by decide) thn h3' (by omega),w9u (d+1) id true els h4' (by omega)];rfl
    | false=>rw [x1e (d+1) id true false (by decide) els h4' (by omega),w9u (d+1) id false thn h3' (by omega),u8k,u4e];rfl
   rcases u3p.1 hu with hu|hu
   ·have hr:=rg h3' u hu;have hn2:=VZ (l:=fuL (d+1) id true els) (q:=inI u.id b) fun x hx=>q3r (by rcases FQ _ _ _ _ h4' x hx with h5|h5<;>omega);rw [hn2,w9t (d+1) id false thn h3' (by omega) u hu b,u8k,u4e]
   ·have hr:=rg h4' u hu;have hn2:=VZ (l:=fuL (d+1) id false thn) (q:=inI u.id b) fun x hx=>q3r (by rcases FQ _ _ _ _ h3' x hx with h5|h5<;>omega);rw [hn2,w9t (d+1) id true els h4' (by omega) u hu b,u8k,u6u]
theorem w9t (d i:Int) (e:Bool) : ∀ (l:List S) {nest m:Int} {n:Nat},WV nest n l=some m->i<=n -> ∀ u∈flL l,∀ b,((fuL d i e l).filter (inI u.id b)).map (fun y=>y.s.id)=(bif b then u.els else u.thn).map S.id
 | [],_,_,_,_,_,u,hu,_=>by rw [flL] at hu;cases hu
 | t::r,nest,m,n,h,hi,u,hu,b=>by
   obtain ⟨_,m1,h1,h2⟩:=ZQ h;have hm1:=KL _ _ t h1;have h2':WV nest ((n+ZA t:Nat):Int) r=some m:=by rw [<- h2,hm1];rfl
   have rg : ∀ {l:List S} {q:Nat} {nest m:Int},WV nest q l=some m -> ∀ u∈flL l,(q:Int)+1<=u.id∧u.id<=(q:Int)+cntL l:=fun {l q nest m} hr u hu=>by
    have h2:u.id∈KT q (cntL l):=by
     rw [<- KM nest l hr];exact u3s.2 ⟨u,hu,rfl⟩
    have:=q9s h2;omega
   rw [fuL,u4a,u3t];rw [flL] at hu;rcases u3p.1 hu with hu|hu
   ·have hr:(n:Int)+1<=u.id∧u.id<=(n:Int)+ZA t:=by
     have h5:WV nest n [t]=some m1:=by
      rw [WV,if_neg (by have:=(ZQ h).1;omega),h1];simp only;rw [WV]
     have:=rg h5 u (by rw [flL,flL,u4e];exact hu);rw [cntL,cntL] at this;omega
    have hn2:=VZ (l:=fuL d i e r) (q:=inI u.id b) fun x hx=>q3r (by rcases FQ _ _ _ _ h2' x hx with h5|h5<;>omega);rw [hn2,v9k d i e t h1 hi u hu b,u8k,u4e]
   ·have hr:=rg h2' u hu;have hn2:=VZ (l:=fuS d i e t) (q:=inI u.id b) fun x hx=>q3r (by rcases w4k _ _ _ _ h1 x hx with h5|h5<;>omega);rw [hn2,w9t d i e r h2' (by omega) u hu b,u8k,u6u]
end
theorem z2a : ∀ (pre:List Int) {a:Int} {r:List Int},(pre++a::r).Nodup->nextIn (pre++a::r) a=r.head?
 | [],a,[],_=>rfl
 | [],a,b::r,_=>by show (if a=a then some b else _)=_;rw [if_pos rfl];rfl
 | x::pre,a,r,hn=>by
   have hn':(x::(pre++a::r)).Nodup:=hn;rw [u5l] at hn';have hne:x≠a:=fun e=>hn'.1 (e▸u3p.2 (.inr u3g));have ih:=z2a pre hn'.2;show nextIn (x::(pre++a::r)) a=_;cases hq:pre++a::r with
   | nil=>simp at hq
   | cons y q =>
     rw [hq] at ih;show (if x=a then some y else nextIn (y::q) a)=_;rw [if_neg hne,ih]
def u1d (L:List RI) (i nx:Int):Prop:=(i=0∧nx = -1)∨(i≠0∧(itemR L i).s.kind=6∧nx=i)∨(i≠0∧(itemR L i).s.kind≠6∧BehP L i nx)
mutual
theorem u2w {L:List RI} (hN:(L.map fun x=>x.s.id).Nodup) (hK : ∀ x∈L,∀ b,(L.filter (inI x.s.id b)).map (fun y=>y.s.id)=(bif b then x.s.els else x.s.thn).map S.id) (proc d i:Int) (e:Bool) : ∀ (t:S) {nest m:Int} (nx lp:Int) (n:Nat),x0y nest n t=some m->(∀ x∈fuS d i e t,x∈L)->BehP L t.id nx -> ∀ it∈itS proc i nx lp n t,BehP L it.s.id it.next
 | .mk id kind labels name pr x has args thn els,nest,m,nx,lp,n,h,hL,hb,it,hi=>by
   obtain ⟨_,hid,m1,h3,h4⟩:=WU h;have hid:id=(n:Int)+1:=hid;have hm1:=WG _ _ thn h3;have h3':WV (nest+1) ((n+1:Nat):Int) thn=some m1:=by rw [<- h3];rfl
   have h4':WV (nest+1) ((n+1+cntL thn:Nat):Int) els=some m:=by
    rw [<- h4,hm1];congr 1
   rw [fuS] at hL;have hx:=hL _ u3g;have hit:=w4e hN hx;have k1:=hK _ hx false;have k2:=hK _ hx true;have haft:u1d L id (if kind=6 then (n:Int)+1 else nx):=by
    have hit':itemR L id=⟨.mk id kind labels name pr x has args thn els,d,i,e⟩:=hit;by_cases hk:kind=6
    ·rw [if_pos hk];exact .inr (.inl ⟨by omega,by rw [hit'];exact hk,hid.symm⟩)
    ·rw [if_neg hk];exact .inr (.inr ⟨by omega,by rw [hit'];exact hk,hb⟩)
   rw [itS] at hi;rcases u3c.1 hi with rfl|hi
   ·exact hb
   rw [<- hid] at hi;rcases u3p.1 hi with hi|hi
   ·exact v8k hN hK proc (d+1) id false thn _ _ (n+1) [] h3' (fun y hy=>hL y (u3n _ (u3p.2 (.inl hy)))) k1 (by rw [hid] at haft ⊢;exact haft) it hi
   ·exact v8k hN hK proc (d+1) id true els _ _ (n+1+cntL thn) [] h4' (fun y hy=>hL y (u3n _ (u3p.2 (.inr hy)))) k2 (by rw [hid] at haft ⊢;exact haft) it hi
theorem v8k {L:List RI} (hN:(L.map fun x=>x.s.id).Nodup) (hK : ∀ x∈L,∀ b,(L.filter (inI x.s.id b)).map (fun y=>y.s.id)=(bif b then x.s.els else x.s.thn).map S.id) (proc d i:Int) (e:Bool) : ∀ (l:List S) {nest m:Int} (nx lp:Int) (n:Nat) (pre:List S),WV nest n l=some m->(∀ x∈fuL d i e l,x∈L)->(L.filter (inI i e)).map (fun y=>y.s.id)=(pre++l).map S.id->u1d L i nx -> ∀ it∈itL proc i nx lp n l,BehP L it.s.id it.next
 | [],_,_,_,_,_,_,_,_,_,_,it,hi=>by rw [itL] at hi;cases hi
 | t::r,nest,m,nx,lp,n,pre,h,hL,hR,ha,it,hi=>by
   obtain ⟨_,m1,h1,h2⟩:=ZQ h;have hm1:=KL _ _ t h1;have h2':WV nest ((n+ZA t:Nat):Int) r=some m:=by rw [<- h2,hm1];rfl
   rw [fuL] at hL;have hx:(⟨t,d,i,e⟩:RI)∈L:=hL _ (u3p.2 (.inl (by rw [x5v];exact u3g)));have hit:itemR L t.id=⟨t,d,i,e⟩:=w4e hN hx;have hnd:((pre++t::r).map S.id).Nodup:=by
    rw [<- hR];exact (u9m.map _).nodup hN
   have hnx:nextIn (stdR L (itemR L t.id)) t.id=r.head?.map S.id:=by
    unfold stdR;rw [hit,hR];rw [u3t,u4m] at hnd ⊢;rw [z2a _ hnd,List.head?_map]
   have hb:BehP L t.id (if r.isEmpty then nx else n+1+ZA t):=by
    cases r with
    | nil =>
      show BehP L t.id nx;rw [List.head?_nil,Option.map_none] at hnx;have hin:(itemR L t.id).inn=i:=by rw [hit]
      rcases ha with ⟨h5,h6⟩|⟨h5,h6,h7⟩|⟨h5,h6,h7⟩
      ·rw [h6];exact .exit hnx (by rw [hin];exact h5)
      ·rw [h7];have:=BehP.loop hnx (by rw [hin];exact h5) (by rw [hin];exact h6)
       rwa [hin] at this
      ·exact .up hnx (by rw [hin];exact h5) (by rw [hin];exact h6) (by rw [hin];exact h7)
    | cons u r =>
      rw [if_neg (by simp)];refine .next ?_
      rw [hnx];obtain ⟨_,m3,h8,_⟩:=ZQ h2';have hu:=(WU h8).2.1;show some u.id=_;rw [hu];congr 1;omega
   rw [itL] at hi;rcases u3p.1 hi with hi|hi
   ·exact u2w hN hK proc d i e t _ lp n h1 (fun y hy=>hL y (u3p.2 (.inl hy))) hb it hi
   ·exact v8k hN hK proc d i e r nx lp (n+ZA t) (pre++[t]) h2' (fun y hy=>hL y (u3p.2 (.inr hy))) (by rw [hR,u4f];rfl) ha it hi
end

def HO:List RI->Int->Int×Bool
 | [],_=>(0,false)
 | x::r,i=>if i=0 then (0,false) else if x.s.id=i then (if x.s.kind=6 then (i,true) else HO r x.inn) else HO r i
def z4u:List RI->Int->Int×Bool
 | [],_=>(0,false)
 | x::r,id=>if x.s.id=id then (if (HO r x.inn).2 then HO r x.inn else z4u r id) else z4u r id
theorem w0l {l:List RI} {n:Nat} (hn:n<l.length) (i:Int):HO (l.take (n+1)).reverse i=if i=0 then (0,false) else if l[n].s.id=i then (if l[n].s.kind=6 then (i,true) else HO (l.take n).reverse l[n].inn) else HO (l.take n).reverse i:=by
 rw [u3a hn,List.reverse_append];show HO (l[n]::(l.take n).reverse) i=_;rw [HO]
theorem z1v {l:List RI} {n:Nat} (hn:n<l.length) (i:Int):z4u (l.take (n+1)).reverse i=if l[n].s.id=i then (if (HO (l.take n).reverse l[n].inn).2 then HO (l.take n).reverse l[n].inn else z4u (l.take n).reverse i) else z4u (l.take n).reverse i:=by
 rw [u3a hn,List.reverse_append];show z4u (l[n]::(l.take n).reverse) i=_;rw [z4u]
theorem w0r : ∀ (l:List RI),HO l 0=(0,false)
 | []=>rfl
 | x::r=>by rw [HO,if_pos rfl]
theorem x4n : ∀ (l r:List RI) {i:Int},i≠0->(∀ x∈l,x.s.id≠i)->HO (l++r) i=HO r i
 | [],_,_,_,_=>rfl
 | x::l,r,i,h0,h=>by rw [u7i,HO,if_neg h0,if_neg (h x u3g),x4n l r h0 fun y hy=>h y (u3n _ hy)]
mutual
theorem u2j (proc d i:Int) (e:Bool) : ∀ (t:S) {nest m:Int} (nx lp:Int) (n:Nat),x0y nest n t=some m->(itS proc i nx lp n t).map (fun it=>(it.s,it.up))=(fuS d i e t).map fun x=>(x.s,x.inn)
 | .mk id kind labels name pr x has args thn els,nest,m,nx,lp,n,h=>by
   obtain ⟨_,hid,m1,h3,h4⟩:=WU h;have hid:id=(n:Int)+1:=hid;have hm1:=WG _ _ thn h3;have h3':WV (nest+1) ((n+1:Nat):Int) thn=some m1:=by rw [<- h3];rfl
   have h4':WV (nest+1) ((n+1+cntL thn:Nat):Int) els=some m:=by
    rw [<- h4,hm1];congr 1
   rw [itS,fuS,u4m,u4m,u3t,u3t,<- hid,v7r proc (d+1) id false thn _ _ _ h3',v7r proc (d+1) id true els _ _ _ h4']
theorem v7r (proc d i:Int) (e:Bool) : ∀ (l:List S) {nest m:Int} (nx lp:Int) (n:Nat),WV nest n l=some m->(itL proc i nx lp n l).map (fun it=>(it.s,it.up))=(fuL d i e l).map fun x=>(x.s,x.inn)
 | [],_,_,_,_,_,_=>by rw [itL,fuL];rfl
 | t::r,nest,m,nx,lp,n,h=>by
   obtain ⟨_,m1,h1,h2⟩:=ZQ h;have hm1:=KL _ _ t h1;have h2':WV nest ((n+ZA t:Nat):Int) r=some m:=by rw [<- h2,hm1];rfl
   rw [itL,fuL,u3t,u3t,u2j proc d i e t _ _ _ h1,v7r proc d i e r _ _ _ h2']
end

mutual
theorem lpS (proc:Int) : ∀ (t:S) {nest m:Int} (up nx lp:Int) (n:Nat),x0y nest n t=some m -> ∀ it∈itS proc up nx lp n t,(it.up=up∧it.loop=lp) ∨ ∃ iu∈itS proc up nx lp n t,iu.s.id=it.up∧iu.s.id<it.s.id∧it.loop=if iu.s.kind=6 then iu.s.id else iu.loop
 | .mk id kind labels name pr x has args thn els,nest,m,up,nx,lp,n,h,it,hi=>by
   obtain ⟨_,hid,m1,h3,h4⟩:=WU h;have hid:id=(n:Int)+1:=hid;have hm1:=WG _ _ thn h3;have h3':WV (nest+1) ((n+1:Nat):Int) thn=some m1:=by rw [<- h3];rfl
   have h4':WV (nest+1) ((n+1+cntL thn:Nat):Int) els=some m:=by
    rw [<- h4,hm1];congr 1
   rw [itS] at hi ⊢;rcases u3c.1 hi with rfl|hi
   ·exact .inl ⟨rfl,rfl⟩
   rcases u3p.1 hi with hi|hi
   ·have hr:=w4s h3' hi;rcases lpL proc thn _ _ _ (n+1) h3' it hi with ⟨h5,h6⟩|⟨iu,h5,h6⟩
    ·refine .inr ⟨_,u3g,?_,?_,?_⟩
     ·rw [h5];exact hid
     ·show id<_;omega
     ·rw [h6];show (if kind=6 then (n:Int)+1 else lp)=if kind=6 then id else lp;rw [hid]
    ·exact .inr ⟨iu,u3n _ (u3p.2 (.inl h5)),h6⟩
   ·have hr:=w4s h4' hi;rcases lpL proc els _ _ _ (n+1+cntL thn) h4' it hi with ⟨h5,h6⟩|⟨iu,h5,h6⟩
    ·refine .inr ⟨_,u3g,?_,?_,?_⟩
     ·rw [h5];exact hid
     ·show id<_;omega
     ·rw [h6];show (if kind=6 then (n:Int)+1 else lp)=if kind=6 then id else lp;rw [hid]
    ·exact .inr ⟨iu,u3n _ (u3p.2 (.inr h5)),h6⟩
theorem lpL (proc:Int) : ∀ (l:List S) {nest m:Int} (up nx lp:Int) (n:Nat),WV nest n l=some m -> ∀ it∈itL proc up nx lp n l,(it.up=up∧it.loop=lp) ∨ ∃ iu∈itL proc up nx lp n l,iu.s.id=it.up∧iu.s.id<it.s.id∧it.loop=if iu.s.kind=6 then iu.s.id else iu.loop
 | [],nest,m,up,nx,lp,n,h,it,hi=>by rw [itL] at hi;cases hi
 | t::r,nest,m,up,nx,lp,n,h,it,hi=>by
   obtain ⟨_,m1,h1,h2⟩:=ZQ h;have hm1:=KL _ _ t h1;have h2':WV nest ((n+ZA t:Nat):Int) r=some m:=by rw [<- h2,hm1];rfl
   rw [itL] at hi ⊢;rcases u3p.1 hi with hi|hi
   ·rcases lpS proc t up _ lp n h1 it hi with h5|⟨iu,h5,h6⟩
    ·exact .inl h5
    ·exact .inr ⟨iu,u3p.2 (.inl h5),h6⟩
   ·rcases lpL proc r up nx lp (n+ZA t) h2' it hi with h5|⟨iu,h5,h6⟩
    ·exact .inl h5
    ·exact .inr ⟨iu,u3p.2 (.inr h5),h6⟩
end
section
variable {p:Pg} {j:Nat} {f:Pr}
theorem x7e (h:UB p=true) (hj:p.procs[j]? = some f):(flatU f).map (fun x=>x.s.id)=KT (QN p.procs j) (cntL f.body):=by
 obtain ⟨m,hr⟩:=q1s h hj;rw [<- KM 1 f.body hr];have:=PH 1 0 false f.body;rw [<- this,u8a];rfl
theorem w0i (h:UB p=true) (hj:p.procs[j]? = some f):((flatU f).map fun x=>x.s.id).Nodup:=by
 rw [x7e h hj];exact q6d _ _
theorem q9l {t:S} (ht:t∈flL f.body) : ∃ x∈flatU f,x.s=t:=by
 rw [<- show (flatU f).map RI.s=flL f.body from PH 1 0 false f.body] at ht;exact u3s.1 ht
theorem z1t (h:UB p=true) (hj:p.procs[j]? = some f) : ∀ x∈flatU f,∀ b,((flatU f).filter (inI x.s.id b)).map (fun y=>y.s.id)=(bif b then x.s.els else x.s.thn).map S.id:=fun x hx b=>by
 obtain ⟨m,hr⟩:=q1s h hj;refine w9t 1 0 false f.body hr (by omega) x.s ?_ b;rw [<- PH 1 0 false f.body];exact u3s.2 ⟨x,hx,rfl⟩
theorem x5q (h:UB p=true) (hj:p.procs[j]? = some f):((flatU f).filter (inI 0 false)).map (fun y=>y.s.id)=f.body.map S.id:=by
 obtain ⟨m,hr⟩:=q1s h hj;exact w9u 1 0 false f.body hr (by omega)
theorem z7m (h:UB p=true) (hj:p.procs[j]? = some f) {it:Item} (hi:it∈itsOf p j f):BehP (flatU f) it.s.id it.next:=by
 obtain ⟨m,hr⟩:=q1s h hj;exact v8k (w0i h hj) (z1t h hj) (j:Nat) 1 0 false f.body (-1) 0 (QN p.procs j) [] hr (fun x hx=>hx) (by rw [x5q h hj];rfl) (.inl ⟨rfl,rfl⟩) it hi
theorem z1n {l:List RI} {q:RI->Bool}:((l.find? q).map fun y=>y.s.id)=((l.filter q).map fun y=>y.s.id).head? := by
 rw [List.head?_map,List.head?_filter]
theorem x5g (l:List S) (o:Int):((l.map S.id).head?).getD o=x4x l o:=by
 cases l<;>rfl
theorem q6u (h:UB p=true) (hj:p.procs[j]? = some f) {t:S} (ht:t∈flL f.body) (b:Bool) (o:Int):v3i (flatU f) t.id b o=x4x (bif b then t.els else t.thn) o:=by
 obtain ⟨x,hx,rfl⟩:=q9l ht;unfold v3i;rw [z1n,z1t h hj x hx b,x5g]
theorem z5y (h:UB p=true) (hj:p.procs[j]? = some f) (o:Int):v3i (flatU f) 0 false o=x4x f.body o:=by
 unfold v3i;rw [z1n,x5q h hj,x5g]
theorem x1n (h:UB p=true) (hj:p.procs[j]? = some f) {it:Item} (hi:it∈itsOf p j f):z4u (flatU f).reverse it.s.id=(it.loop,decide (it.loop≠0)):=by
 obtain ⟨m,hr⟩:=q1s h hj;have hpar:=v7r (j:Nat) 1 0 false f.body (-1) 0 (QN p.procs j) hr;have hids:=x7e h hj;have hlp:=fun it hi=>lpL (j:Nat) f.body 0 (-1) 0 (QN p.procs j) hr it hi;have hib:=fun it (hi:it∈itsOf p j f)=>ZW h hj (q1m hi);have hinj:=fun a (ha:a∈itsOf p j f) b (hb:b∈itsOf p j f) he=>v2w h hj ha hb he;have e1:itL (j:Nat) 0 (-1) 0 (QN p.procs j) f.body=itsOf p j f:=rfl;have e2:fuL 1 0 false f.body=flatU f:=rfl;rw [e1] at hpar hlp;rw [e2] at hpar;have hlen:(itsOf p j f).length=(flatU f).length:=by simpa using u5j List.length hpar
 have at_ : ∀ (k:Nat) (hk:k<(flatU f).length),((itsOf p j f)[k]'(by omega)).s=(flatU f)[k].s∧((itsOf p j f)[k]'(by omega)).up=(flatU f)[k].inn:=fun k hk=>by
  have h1:=u5j (fun l=>l[k]?) hpar;simp only [u4q,u3h hk,u3h (show k<(itsOf p j f).length by omega),u6n] at h1;have h2:=u6y h1;exact ⟨u5j Prod.fst h2,u5j Prod.snd h2⟩
 have idk : ∀ (k:Nat) (hk:k<(flatU f).length),(flatU f)[k].s.id=(QN p.procs j:Int)+1+k:=fun k hk=>by
  have h1:=u5j (fun l=>l[k]?) hids;have hk2:k<cntL f.body:=by have:=UD 1 0 false f.body;rw [e2] at this;omega
  unfold KT at h1;simp only [u4q,u3h hk,u6n,u8j hk2] at h1;have:=u6y h1;omega
 have key : ∀ (k:Nat) (hk:k<(flatU f).length),HO ((flatU f).take k).reverse (flatU f)[k].inn=(((itsOf p j f)[k]'(by omega)).loop,decide (((itsOf p j f)[k]'(by omega)).loop≠0)):=fun k=>by
  induction k using Nat.strongRecOn with
  | _ k ih =>
    intro hk;obtain ⟨a1,a2⟩:=at_ k hk;have hki:=idk k hk;rcases hlp _ (u3i (show k<(itsOf p j f).length by omega)) with ⟨h5,h6⟩|⟨iu,h5,h6,h7,h8⟩
    ·rw [<- a2,h5,h6,w0r];rfl
    ·obtain ⟨q,hq,rfl⟩:=u5w.1 h5;obtain ⟨b1,b2⟩:=at_ q (by omega);have hqi:=idk q (by omega);rw [a1] at h7;rw [b1] at h6 h7;have hqk:q<k:=by omega
     have htk:(flatU f).take k=(flatU f).take q++(flatU f)[q]::((flatU f).take k).drop (q+1):=by
      have h9:((flatU f).take k).take q++((flatU f).take k).drop q=(flatU f).take k:=u8m q _;rw [List.take_take,Nat.min_eq_left (by omega),u4n (by rw [u4k];omega),u9g] at h9;exact h9.symm
     have hi0:(flatU f)[k].inn≠0:=by rw [<- a2,<- h6];omega
     have hrev:((flatU f).take k).reverse=(((flatU f).take k).drop (q+1)).reverse++(flatU f)[q]::((flatU f).take q).reverse:=by
      rw [htk];have:((flatU f).take q++(flatU f)[q]::((flatU f).take k).drop (q+1)).drop (q+1)=((flatU f).take k).drop (q+1):=by rw [<- htk]
      rw [this,List.reverse_append,List.reverse_cons,u4f];rfl
     rw [hrev,x4n _ _ hi0 (fun x hx=>by
      obtain ⟨z,hz,rfl⟩:=u5w.1 (List.mem_reverse.1 hx);rw [u6w,u4k] at hz;rw [List.getElem_drop,u9g,idk _ (by omega),<- a2,<- h6];omega)]
     rw [HO,if_neg hi0,if_pos (by rw [<- a2,<- h6])];rw [h8,b1];split
     ·rename_i hk6;rw [<- a2,<- h6,u5z (by omega)]
     ·exact ih q hqk (by omega)
 obtain ⟨k,hk,rfl⟩:=u5w.1 hi;have hkU:k<(flatU f).length:=by omega
 obtain ⟨a1,a2⟩:=at_ k hkU;have scan : ∀ (n:Nat),n<=(flatU f).length->z4u ((flatU f).take n).reverse (flatU f)[k].s.id=if k<n then (((itsOf p j f)[k]'(by omega)).loop,decide (((itsOf p j f)[k]'(by omega)).loop≠0)) else (0,false):=fun n=>by
  induction n with
  | zero=>intro _;rfl
  | succ n ih =>
    intro hn;rw [z1v (show n<(flatU f).length by omega),ih (by omega)];have hki:=idk k hkU;have hni:=idk n (by omega);by_cases he:n=k
    ·subst he;rw [if_pos rfl,key n hkU,if_neg (Nat.lt_irrefl n),if_pos (Nat.lt_succ_self n)];by_cases h0:((itsOf p j f)[n]'(by omega)).loop=0
     ·rw [h0];rfl
     ·rw [u5z h0,if_pos rfl]
    ·rw [if_neg (show ¬(flatU f)[n].s.id=(flatU f)[k].s.id by omega)];by_cases hlt:k<n
     ·rw [if_pos hlt,if_pos (show k<n+1 by omega)]
     ·rw [if_neg hlt,if_neg (show ¬k<n+1 by omega)]
 have:=scan (flatU f).length (u4j _);rw [u7w,if_pos hkU] at this;rw [a1];exact this
end
theorem q8j (l:List Str) (x:Str):inS l x=l.any fun s=>x==s:=by
 unfold inS;congr 1;funext s;exact Bool.beq_comm
theorem WM {l:List Str}:XM l=false↔l.Nodup:=by
 refine ⟨z9e,fun h => ?_⟩;unfold XM;rw [u7s];intro i hi;rw [u6c] at hi;rw [u8c,u7s];intro s hs he;rw [u3h hi] at he;have he:l[i]=s:=eq_of_beq he;obtain ⟨k,hk,rfl⟩:=u5w.1 hs;rw [u4k] at hk;rw [u9g] at he;have:=(List.getElem_inj h).1 he;omega
theorem q1l : ∀ (l seen:List Str),seen.Nodup->((YY seen l).isSome=true↔(seen++l).Nodup)
 | [],seen,h=>by rw [YY,u4e];exact ⟨fun _=>h,fun _=>rfl⟩
 | n::r,seen,h=>by
   rw [YY];cases hc:(seen.any fun s=>n==s) with
   | true =>
     rw [u4y];obtain ⟨s,hs,he⟩:=u5n.1 hc;have he:n=s:=eq_of_beq he;refine ⟨fun h=>by (cases h),fun h2 => ?_⟩;rw [u5p] at h2;exact absurd rfl (h2.2.2 s hs n u3g |> fun hh=>he▸hh)
   | false =>
     rw [u4h];have hn:n∉seen:=fun hm=>by
      have:=u7s.1 hc n hm;simp at this
     have h1:(seen++[n]).Nodup:=by
      rw [u5p];exact ⟨h,by simp,fun a ha b hb e=>hn (by rw [<- u3b.1 hb,<- e];exact ha)⟩
     rw [q1l r (seen++[n]) h1,u4f];rfl
theorem z2p (f:Pr) : ∀ (its:List Item) (seen:List Str),seen.Nodup->((∃ s,KQ f its seen = .ok s)↔(∀ it∈its,US f it=true)∧(seen++its.flatMap fun it=>it.s.labels).Nodup)
 | [],seen,h=>by
   rw [KQ];refine ⟨fun _=>⟨fun _ hh=>(by cases hh),by simpa using h⟩,fun _=>⟨seen,rfl⟩⟩
 | it::r,seen,h=>by
   have hj:=q1l it.s.labels seen h;rw [KQ];cases hq:YY seen it.s.labels with
   | none =>
     rw [hq] at hj;refine ⟨fun ⟨s,hs⟩=>by (cases hs),fun ⟨_,h2⟩ => ?_⟩;have:(seen++it.s.labels).Nodup:=by
      rw [u5b,<- u4f] at h2;exact (u5p.1 h2).1
     have:=hj.2 this;cases this
   | some s =>
     obtain rfl:=q3a hq;rw [hq] at hj;have hn:=hj.1 rfl;simp only;cases hl:US f it with
     | false =>
       rw [u4h];refine ⟨fun ⟨s,hs⟩=>by (cases hs),fun ⟨h1,_⟩ => ?_⟩;have:=h1 it u3g;rw [hl] at this;cases this
     | true =>
       rw [u4y,z2p f r _ hn,u5b,u4f];constructor
       ·rintro ⟨h1,h2⟩;refine ⟨fun x hx => ?_,h2⟩;rcases u3c.1 hx with rfl|hx
        ·exact hl
        ·exact h1 x hx
       ·rintro ⟨h1,h2⟩;exact ⟨fun x hx=>h1 x (u3n _ hx),h2⟩
theorem x5n (f:Pr) : ∀ (its:List Item) (seen s:List Str),KQ f its seen = .ok s->s=seen++its.flatMap fun it=>it.s.labels
 | [],seen,s,h=>by rw [KQ] at h;cases h;simp
 | it::r,seen,s,h=>by
   rw [KQ] at h;cases hq:YY seen it.s.labels with
   | none=>rw [hq] at h;cases h
   | some s2 =>
     obtain rfl:=q3a hq;rw [hq] at h;simp only at h;cases hl:US f it with
     | false=>rw [hl] at h;cases h
     | true =>
       rw [hl,u4y] at h;rw [x5n f r _ s h,u5b,u4f]
def x2j (f:Pr):List Str:=(flL f.body).flatMap S.labels++f.fin
def BA (p:Pg) (j:Nat) (f:Pr):Prop:=(∀ it∈itsOf p j f,US f it=true)∧(x2j f).Nodup
theorem x5b (p:Pg) (j:Nat) (f:Pr):((itsOf p j f).flatMap fun it=>it.s.labels)=(flL f.body).flatMap S.labels:=by
 unfold itsOf;rw [<- LA (j:Nat) 0 (-1) 0 (QN p.procs j) f.body,List.flatMap_map]
theorem x5p {p:Pg} {j:Nat} {f:Pr} (hj:p.procs[j]? = some f):JB p j=none↔BA p j f:=by
 unfold JB BA x2j;rw [hj];simp only;have h1:=z2p f (itsOf p j f) [] u9a;rw [u6u,x5b] at h1;have h0:KQ f (itL (j:Nat) 0 (-1) 0 (QN p.procs j) f.body) []=KQ f (itsOf p j f) []:=rfl;rw [h0];cases hq:KQ f (itsOf p j f) [] with
 | error id =>
   rw [hq] at h1;refine ⟨fun h=>by (cases h),fun ⟨h2,h3⟩ => ?_⟩;obtain ⟨s,hs⟩:=h1.2 ⟨h2,(u5p.1 h3).1⟩;cases hs
 | ok seen =>
   rw [hq] at h1;have hs:=x5n f _ _ _ hq;rw [u6u,x5b] at hs;obtain ⟨h2,h3⟩:=h1.1 ⟨seen,rfl⟩;have hJ:=q1l f.fin seen (by rw [hs];exact h3);simp only;rw [<- hs];cases hq2:YY seen f.fin with
   | none =>
     rw [hq2] at hJ;refine ⟨fun h=>by (cases h),fun ⟨_,h4⟩ => ?_⟩;have:=hJ.2 h4;cases this
   | some s =>
     rw [hq2] at hJ;exact ⟨fun _=>⟨h2,hJ.1 rfl⟩,fun _=>rfl⟩
theorem w9l {p:Pg} (hs:(QO p).1=0):(LE p).1=0 ↔ ∀ j f,p.procs[j]? = some f->BA p j f:=by
 unfold LE;rw [if_neg (by omega)];cases hf:(List.range p.procs.length).findSome? (JB p) with
 | some a =>
   refine ⟨fun h=>by simp at h,fun h => ?_⟩;obtain ⟨j,hj,hq⟩:=u7j hf;rw [u6c] at hj;have:=(x5p (u3h hj)).2 (h j _ (u3h hj));rw [this] at hq;cases hq
 | none =>
   refine ⟨fun _ j f hj => ?_,fun _=>rfl⟩;have hlt:j<p.procs.length:=(u3e.1 hj).1;exact (x5p hj).1 (u7f.1 hf j (u6c.2 hlt))
def allV (p:Pg) (f:Pr):List Str:=p.globals++z3v f
structure ScopeOK (p:Pg) (f:Pr):Prop where
 nd:(allV p f).Nodup
 kn : ∀ t∈flL f.body,knownB p f (procsN p) t=true
theorem x2o {p:Pg} {f:Pr} (hg:XM p.globals=false):VA p f=none↔ScopeOK p f:=by
 unfold VA;have h1:(XM (z3v f)||(z3v f).any (fun n=>p.globals.any fun s=>n==s))=false↔(allV p f).Nodup:=by
  unfold allV;rw [u8t,WM,u5p,u7s];have hgn:=WM.1 hg;constructor
  ·rintro ⟨a,b⟩;refine ⟨hgn,a,fun x hx y hy e=>b y hy ?_⟩;rw [u5n];exact ⟨x,hx,by rw [e];exact u6l _⟩
  ·rintro ⟨_,a,b⟩;refine ⟨a,fun y hy hh => ?_⟩;obtain ⟨x,hx,he⟩:=u5n.1 hh;exact b x hx y hy (eq_of_beq he).symm
 cases hc:(XM (z3v f)||(z3v f).any (fun n=>p.globals.any fun s=>n==s)) with
 | true =>
   rw [u4y];refine ⟨fun h=>by (cases h),fun h => ?_⟩;have:=h1.2 h.nd;rw [hc] at this;cases this
 | false =>
   rw [u4h,u9k,u6p];constructor
   ·exact fun h=>⟨h1.1 hc,fun t ht=>by have:=h t ht;simpa using this⟩
   ·intro h t ht;rw [h.kn t ht];decide
theorem w6g {p:Pg} (hm:UB p=true):(QO p).1=0↔WX p=false ∧ ∀ f∈p.procs,ScopeOK p f:=by
 unfold QO;rw [hm,u4y];cases hb:WX p with
 | true=>rw [u4y];exact ⟨fun h=>by simp at h,fun h=>by cases h.1⟩
 | false =>
   have hg:XM p.globals=false:=by
    unfold WX at hb;rw [u8t] at hb;exact hb.1
   rw [u4h];cases hf:p.procs.findSome? (VA p) with
   | some a =>
     refine ⟨fun h=>by simp at h,fun h => ?_⟩;obtain ⟨f,hm2,hq⟩:=u7j hf;rw [(x2o hg).2 (h.2 f hm2)] at hq;cases hq
   | none=>exact ⟨fun _=>⟨rfl,fun f hm2=>(x2o hg).1 (u7f.1 hf f hm2)⟩,fun _=>rfl⟩
theorem x1q {p:Pg} (hs:(QO p).1=0):(UM p).1=0 ↔ ∀ t∈VK p,t.kind=4->JW p t=true:=by
 unfold UM;rw [if_neg (by omega)];cases hf:(VK p).find? fun t=>decide (t.kind=4) && !JW p t with
 | some t =>
   have h1:=u5i hf;have h2:=u7y hf;simp only [u4u,u4b,u7x] at h2;refine ⟨fun h=>by simp at h,fun h => ?_⟩;have:=h t h1 h2.1;rw [h2.2] at this;cases this
 | none =>
   refine ⟨fun _ t ht hk => ?_,fun _=>rfl⟩;have:=u6p.1 hf t ht;simp only [u4u,u4b,u7x,not_and] at this;simpa using this hk
theorem w3z {p:Pg} (ha:(UM p).1=0):(FN p).1=0 ↔ ∀ t∈VK p,t.kind=4->XS t.name (JY p t.proc) t.args []=true:=by
 unfold FN;rw [if_neg (by omega)];cases hf:(VK p).find? fun t=>decide (t.kind=4) && !XS t.name (JY p t.proc) t.args [] with
 | some t =>
   have h1:=u5i hf;have h2:=u7y hf;simp only [u4u,u4b,u7x] at h2;refine ⟨fun h=>by simp at h,fun h => ?_⟩;have:=h t h1 h2.1;rw [h2.2] at this;cases this
 | none =>
   refine ⟨fun _ t ht hk => ?_,fun _=>rfl⟩;have:=u6p.1 hf t ht;simp only [u4u,u4b,u7x,not_and] at this;simpa using this hk
theorem x7p {p:Pg}:QM p=true↔UB p=true∧(QO p).1=0∧(UM p).1=0∧(LE p).1=0∧(FN p).1=0:=by
 refine ⟨QK,fun ⟨h1,h2,h3,h4,h5⟩ => ?_⟩;unfold QM v3v;rw [u4b,if_neg (by rw [h1];decide),if_neg (by omega),if_neg (by omega),if_neg (by omega)];exact h5
theorem z1x {p:Pg} (h:UB p=true):(allR p).map RI.s=VK p:=by
 rw [q5e h];exact v1m p.procs
theorem v4k {l:List Nat} {a:Nat} (h:a∈l):a<=w1h l:=by
 induction l with
 | nil=>cases h
 | cons b r ih =>
   rw [w1h];rcases u3c.1 h with rfl|h
   ·omega
   ·have:=ih h;omega
theorem x5w : ∀ (n:Nat) (x:X) (k:Nat),wX x<k->FR n x<=n->LC k x=true->VO n x=true
 | 0,x,k,_,h,_=>by rw [FR] at h;omega
 | n+1,x,0,hk,_,_=>by omega
 | n+1,x,k+1,hk,h,hf=>by
   rw [FR] at h;rw [LC,u4u,u5t] at hf;obtain ⟨ho,hkids⟩:=hf;have hxe:wX x=1+wXs x.kids:=by cases x;rw [wX];rfl
   have hk2 : ∀ y∈x.kids,VO n y=true:=fun y hy=>x5w n y k (by have:=z6c _ _ hy;omega) (by have:=v4k (u3s.2 ⟨y,hy,rfl⟩:FR n y∈x.kids.map (FR n));omega) (hkids y hy);unfold DQ at ho;simp only [u4u,u8y,u4b,u6m] at ho;obtain ⟨⟨⟨⟨h1,h2⟩,h3⟩,h4⟩,h5⟩:=ho;rw [VO,u4u,u4b];refine ⟨h1.symm,?_⟩;split
   ·rename_i h6;rw [h6,u5h (by decide)] at h4;simp_all
   ·rename_i h6;split
    ·rename_i h7;rw [u5z h7] at h4;simp_all
    ·rename_i h7;rw [u5h h7] at h4;simp_all
theorem z5r (x:X):mayXR x=w1f x:=by
 rw [u6a];refine ⟨fun h => ?_,w5f⟩;unfold mayXR at h;rw [u4u,u4b] at h;exact x5w 20 x _ (Nat.lt_succ_self _) h.1 h.2
theorem v3u (a:Arg):argR a=q3m a:=by
 unfold argR q3m KV PW;rw [z5r];cases a.ref<;>rfl
theorem v0y {s:S} (h:OneF s):oneOk s=true:=by
 obtain ⟨f1,f2,f3,f4,f5,f6,f7,f8,f9,f10,f11,f12,f13,f14⟩:=h;have h11:s.args.all q3m=true:=by
  rw [u5t] at f11 ⊢;exact fun a ha=>by rw [<- v3u];exact f11 a ha
 rw [z5r] at f4;have hk:s.kind=1∨s.kind=2∨s.kind=3∨s.kind=4∨s.kind=5∨s.kind=6∨s.kind=7∨s.kind=8∨s.kind=9∨s.kind=10:=by omega
 have hz : ∀ {α:Type} (l:List α),l.length=0->decide (0<l.length)=false:=fun l h=>u5h (by omega);have hnm : ¬(s.kind=1∨s.kind=2∨s.kind=10)->s.kind≠4->(s.name==[])=true:=fun h1 h2=>by
  rcases f8 h1 with h|h
  ·exact h
  ·exact absurd h.1 h2
 have hhas:s.kind≠9->s.has=false:=fun h=>by
  cases hq:s.has with
  | false=>rfl
  | true=>exact absurd (f6 hq) h
 unfold oneOk;rw [u4u];refine ⟨?_,f1⟩;have key : ∀ (f:Flds),q3n s.kind s.has (s.name==[])=some f->f.has=false->(f.thn=false->s.thn.length=0)->(f.els=false->s.els.length=0)->(s.kind≠4->s.args.length=0)->KV s.name f.name=true->KV s.proc f.proc=true->PW s.x f.x=true->VS s=true:=fun f hf a1 a2 a3 a4 a5 a6 a7=>by
  rw [x4e hf,a1,a5,a6,a7,h11];have e1:(!f.thn&&decide (0<s.thn.length))=false:=by
   cases ht:f.thn with
   | true=>rfl
   | false=>rw [hz _ (a2 ht)];rfl
  have e2:(!f.els&&decide (0<s.els.length))=false:=by
   cases ht:f.els with
   | true=>rfl
   | false=>rw [hz _ (a3 ht)];rfl
  have e3:(!decide (s.kind=4)&&decide (0<s.args.length))=false:=by
   by_cases h4:s.kind=4
   ·rw [u5z h4];rfl
   ·rw [hz _ (a4 h4)];exact Bool.and_false _
  rw [e1,e2,e3];rfl
 have noP:s.kind≠4->KV s.proc false=true:=fun h=>f10 h;rcases hk with hk|hk|hk|hk|hk|hk|hk|hk|hk|hk
 ·exact key ⟨true,false,true,s.has,false,false⟩ (by rw [hk];rfl) (hhas (by omega)) (fun _=>by omega) (fun _=>by omega) f12 (f7 (by omega)) (noP (by omega)) (f4 (by unfold hasXB;rw [hk];rfl))
 ·exact key ⟨true,false,false,s.has,false,false⟩ (by rw [hk];rfl) (hhas (by omega)) (fun _=>by omega) (fun _=>by omega) f12 (f7 (by omega)) (noP (by omega)) (f5 (by unfold hasXB;rw [hk];rfl))
 ·exact key ⟨false,false,true,s.has,false,false⟩ (by rw [hk];rfl) (hhas (by omega)) (fun _=>by omega) (fun _=>by omega) f12 (hnm (by omega) (by omega)) (noP (by omega)) (f4 (by unfold hasXB;rw [hk];rfl))
 ·refine key ⟨!(s.name==[]),true,false,s.has,false,false⟩ (by rw [hk];rfl) (hhas (by omega)) (fun _=>by omega) (fun _=>by omega) f12 ?_ (f9 hk) (f5 (by unfold hasXB;rw [hk];rfl));rcases f8 (by omega) with h|h
  ·rw [h];exact h
  ·rw [q6b h.2];exact h.2
 ·exact key ⟨false,false,true,s.has,true,true⟩ (by rw [hk];rfl) (hhas (by omega)) (fun h=>by cases h) (fun h=>by cases h) f12 (hnm (by omega) (by omega)) (noP (by omega)) (f4 (by unfold hasXB;rw [hk];rfl))
 ·exact key ⟨false,false,true,s.has,true,false⟩ (by rw [hk];rfl) (hhas (by omega)) (fun h=>by cases h) (fun _=>by omega) f12 (hnm (by omega) (by omega)) (noP (by omega)) (f4 (by unfold hasXB;rw [hk];rfl))
 ·exact key ⟨false,false,false,s.has,false,false⟩ (by rw [hk];rfl) (hhas (by omega)) (fun _=>by omega) (fun _=>by omega) f12 (hnm (by omega) (by omega)) (noP (by omega)) (f5 (by unfold hasXB;rw [hk];rfl))
 ·exact key ⟨false,false,false,s.has,false,false⟩ (by rw [hk];rfl) (hhas (by omega)) (fun _=>by omega) (fun _=>by omega) f12 (hnm (by omega) (by omega)) (noP (by omega)) (f5 (by unfold hasXB;rw [hk];rfl))
 ·refine key ⟨false,false,s.has,false,false,false⟩ (by rw [hk];rfl) rfl (fun _=>by omega) (fun _=>by omega) f12 (hnm (by omega) (by omega)) (noP (by omega)) ?_;cases hh:s.has with
  | true=>exact f4 (by unfold hasXB;rw [hk,hh];rfl)
  | false=>exact f5 (by unfold hasXB;rw [hk,hh];rfl)
 ·exact key ⟨true,false,false,s.has,false,false⟩ (by rw [hk];rfl) (hhas (by omega)) (fun _=>by omega) (fun _=>by omega) f12 (f7 (by omega)) (noP (by omega)) (f5 (by unfold hasXB;rw [hk];rfl))
theorem w8a : ∀ (k:Nat) (l:List S) (i:Int) (e:Bool) (out:List RI),(flF k i e l out).length<=200->(∀ x∈flF k i e l out,x.deep<=12)->flF k i e l out=out++fuL (13-(k:Int)) i e l:=by
 intro k;induction k with
 | zero =>
   intro l i e out h1 h2;cases l with
   | nil=>rw [fuL,u4e];rfl
   | cons s r =>
     exfalso;have e0:flF 0 i e (s::r) out=flF 0 i e r (if out.length<=200 then out++[⟨s,13,i,e⟩] else out):=rfl;rw [e0] at h1 h2;have hl:=(NK 0 i e r (if out.length<=200 then out++[⟨s,13,i,e⟩] else out)).1;by_cases ho:out.length<=200
     ·rw [if_pos ho] at h1 h2 hl;have hpre : ∀ (r:List S) (o:List RI) (x:RI),x∈o->x∈flF 0 i e r o:=fun r=>by
       induction r with
       | nil=>exact fun o x hx=>hx
       | cons a r ih =>
         intro o x hx;show x∈flF 0 i e r (if o.length<=200 then o++[⟨a,13,i,e⟩] else o);refine ih _ _ ?_;split
         ·exact u3p.2 (.inl hx)
         ·exact hx
      have:=h2 _ (hpre r _ ⟨s,13,i,e⟩ (u3p.2 (.inr (u3b.2 rfl))));simp at this
     ·rw [if_neg ho] at h1 hl;omega
 | succ k ih =>
   intro l;induction l with
   | nil=>intro i e out h1 h2;rw [fuL,u4e];rfl
   | cons s r ihr =>
     intro i e out h1 h2;have e0:flF (k+1) i e (s::r) out=flF (k+1) i e r (if out.length<=200 then flF k s.id true s.els (flF k s.id false s.thn (out++[⟨s,13-((k+1:Nat):Int),i,e⟩])) else out):=rfl;rw [e0] at h1 h2 ⊢;have hl:=(NK (k+1) i e r (if out.length<=200 then flF k s.id true s.els (flF k s.id false s.thn (out++[⟨s,13-((k+1:Nat):Int),i,e⟩])) else out)).1;have ho:out.length<=200:=by
      refine u6r fun hq => ?_;rw [if_neg hq] at hl h1;omega
     rw [if_pos ho] at h1 h2 hl ⊢;have h3:=ihr i e _ h1 h2;rw [h3] at h2;have h2' : ∀ x∈flF k s.id true s.els (flF k s.id false s.thn (out++[⟨s,13-((k+1:Nat):Int),i,e⟩])),x.deep<=12:=fun x hx=>h2 x (u3p.2 (.inl hx));have h4:=ih s.els s.id true _ (by omega) h2';rw [h4] at h2';have h2'' : ∀ x∈flF k s.id false s.thn (out++[⟨s,13-((k+1:Nat):Int),i,e⟩]),x.deep<=12:=fun x hx=>h2' x (u3p.2 (.inl hx));have hl2:=(NK k s.id true s.els (flF k s.id false s.thn (out++[⟨s,13-((k+1:Nat):Int),i,e⟩]))).1;have h5:=ih s.thn s.id false _ (by omega) h2'';have ed:(13:Int)-((k+1:Nat):Int)+1=13-(k:Int):=by omega
     rw [h3,h4,h5,fuL,x5v,ed];simp
mutual
theorem v4i (d i:Int) (e:Bool) (seen:Nat) : ∀ (t:S),(fuS d i e t).map (fun x=>x.s.id)=KT seen (ZA t)->(∀ x∈fuS d i e t,x.deep<=12∧oneOk x.s=true)->seen+ZA t<=200->x0y d seen t=some ((seen+ZA t:Nat):Int)
 | .mk id kind labels name proc x has args thn els,h1,h2,h3=>by
   have hc:ZA (.mk id kind labels name proc x has args thn els)=1+cntL thn+cntL els:=WK _;rw [fuS] at h1 h2;rw [hc] at h1 h3 ⊢;have hsp:KT seen (1+cntL thn+cntL els)=((seen:Int)+1)::(KT (seen+1) (cntL thn)++KT (seen+1+cntL thn) (cntL els)):=by
    rw [<- BX];unfold KT;rw [show 1+cntL thn+cntL els=(cntL thn+cntL els)+1 by omega,List.range'_succ,u4m];congr 1
   rw [hsp,u4m,u3t] at h1;have hid:id=(seen:Int)+1:=(List.cons.inj h1).1;have h1':=(List.cons.inj h1).2;have hlen:((fuL (d+1) id false thn).map fun x=>x.s.id).length=(KT (seen+1) (cntL thn)).length:=by
    rw [u3k,UD];unfold KT;simp
   obtain ⟨ha,hb⟩:=List.append_inj h1' hlen;have hok:=h2 _ u3g;have r1:=x8i (d+1) id false (seen+1) thn ha (fun x hx=>h2 x (u3n _ (u3p.2 (.inl hx)))) (by omega);have r2:=x8i (d+1) id true (seen+1+cntL thn) els hb (fun x hx=>h2 x (u3n _ (u3p.2 (.inr hx)))) (by omega);have hoo:=hok.2;unfold oneOk at hoo;rw [u4u] at hoo;rw [x0y,if_neg (by omega),if_neg (by omega),show namesB labels=true from hoo.2,u4y,show VS (.mk id kind labels name proc x has args thn els)=true from hoo.1,u4y];have e1:(seen:Int)+1=((seen+1:Nat):Int):=by omega
   rw [e1,r1];simp only;rw [r2];congr 1;omega
theorem x8i (d i:Int) (e:Bool) (seen:Nat) : ∀ (l:List S),(fuL d i e l).map (fun x=>x.s.id)=KT seen (cntL l)->(∀ x∈fuL d i e l,x.deep<=12∧oneOk x.s=true)->seen+cntL l<=200->WV d seen l=some ((seen+cntL l:Nat):Int)
 | [],_,_,_=>by rw [WV,cntL];rfl
 | t::r,h1,h2,h3=>by
   rw [fuL] at h1 h2;have hc:cntL (t::r)=ZA t+cntL r:=by rw [cntL]
   rw [hc] at h1 h3 ⊢;rw [BX,u3t] at h1;have hlen:((fuS d i e t).map fun x=>x.s.id).length=(KT seen (ZA t)).length:=by
    have:=UD d i e [t];rw [fuL,fuL,u4e,cntL,cntL] at this;rw [u3k,this];unfold KT;simp
   obtain ⟨ha,hb⟩:=List.append_inj h1 hlen;have hd:d<=12:=by
    have:(⟨t,d,i,e⟩:RI)∈fuS d i e t++fuL d i e r:=u3p.2 (.inl (by rw [x5v];exact u3g));exact (h2 _ this).1
   have r1:=v4i d i e seen t ha (fun x hx=>h2 x (u3p.2 (.inl hx))) (by omega);have r2:=x8i d i e (seen+ZA t) r hb (fun x hx=>h2 x (u3p.2 (.inr hx))) (by omega);rw [WV,if_neg (by omega),r1];simp only;rw [r2];congr 1;omega
end
theorem z2l : ∀ (l:List Pr) (seen:Nat),(∀ f∈l,FX f=true)->((l.flatMap flatU).map fun x=>x.s.id)=KT seen (cntP l)->(∀ x∈l.flatMap flatU,x.deep<=12∧oneOk x.s=true)->seen+cntP l<=200->(ZY seen l).isSome=true
 | [],_,_,_,_,_=>rfl
 | f::r,seen,h1,h2,h3,h4=>by
   rw [u5b] at h2 h3;have hc:cntP (f::r)=cntL f.body+cntP r:=by rw [cntP]
   rw [hc] at h2 h4;rw [BX,u3t] at h2;have hlen:((flatU f).map fun x=>x.s.id).length=(KT seen (cntL f.body)).length:=by
    unfold flatU;rw [u3k,UD];unfold KT;simp
   obtain ⟨ha,hb⟩:=List.append_inj h2 hlen;have r1:=x8i 1 0 false seen f.body ha (fun x hx=>h3 x (u3p.2 (.inl hx))) (by omega);have r2:=z2l r (seen+cntL f.body) (fun g hg=>h1 g (u3n _ hg)) hb (fun x hx=>h3 x (u3p.2 (.inr hx))) (by omega);rw [ZY,h1 f u3g,u4y,r1];exact r2
theorem w0d : ∀ (l:List Pr) (out:List RI),(NW l out).length<=200->(∀ x∈NW l out,x.deep<=12)->NW l out=out++l.flatMap flatU:=by
 intro l;induction l with
 | nil=>intro out _ _;show out=_;simp
 | cons f r ih =>
   intro out h1 h2;have mono : ∀ (r:List Pr) (o:List RI),o.length<=(NW r o).length:=fun r=>by
    induction r with
    | nil=>exact fun o=>u4j _
    | cons g r ih =>
      intro o;show _<=(NW r (if o.length<=200 then o++WL g else o)).length;have:=ih (if o.length<=200 then o++WL g else o);split at this
      ·rw [if_pos (by assumption)];simp only [u3f] at this;omega
      ·rw [if_neg (by assumption)];exact this
   have e0:NW (f::r) out=NW r (if out.length<=200 then out++WL f else out):=rfl;rw [e0] at h1 h2 ⊢;have hm:=mono r (if out.length<=200 then out++WL f else out);have ho:out.length<=200:=by
    refine u6r fun hq => ?_;rw [if_neg hq] at hm h1;omega
   rw [if_pos ho] at h1 h2 hm ⊢;have h3:=ih _ h1 h2;rw [h3] at h2 h1 ⊢;simp only [u3f] at h1;have h4:=w8a 12 f.body 0 false [] (by show (WL f).length<=200;omega) (fun x hx=>h2 x (u3p.2 (.inl (u3p.2 (.inr hx)))));have h5:WL f=flatU f:=by simpa [WL,flatU] using h4
   rw [h5];simp
theorem v7k {p:Pg} (h1:p.globals.length<=16) (h2:p.procs.length<=16) (h3:namesB p.globals=true) (h4 : ∀ f∈p.procs,FX f=true) (h5:(allR p).length<=200) (h6 : ∀ (k:Nat) (x:RI),(allR p)[k]? = some x->x.s.id=(k:Int)+1∧x.deep<=12∧oneOk x.s=true):UB p=true:=by
 have hmem : ∀ x∈allR p,x.deep<=12∧oneOk x.s=true:=fun x hx=>by
  obtain ⟨k,hk,rfl⟩:=u5w.1 hx;exact (h6 k _ (u3h hk)).2
 have he:allR p=p.procs.flatMap flatU:=by
  have:=w0d p.procs [] h5 (fun x hx=>(hmem x hx).1);simpa [allR] using this
 have hids:(p.procs.flatMap flatU).map (fun x=>x.s.id)=KT 0 (cntP p.procs):=by
  refine List.ext_getElem? fun k => ?_;rw [u4q,<- he];rcases u3r k (allR p).length with hk|hk
  ·have hk2:k<cntP p.procs:=by rw [<- q3u,<- he];exact hk
   rw [u3h hk];have:=(h6 k _ (u3h hk)).1;unfold KT;rw [u4q,u8j hk2];simp only [u6n,this];congr 1;omega
  ·have hk2:cntP p.procs<=k:=by rw [<- q3u,<- he];exact hk
   rw [u5d hk,u5d (by unfold KT;simpa using hk2)];rfl
 have hlen:0+cntP p.procs<=200:=by rw [<- q3u,<- he];omega
 have:=z2l p.procs 0 h4 hids (fun x hx=>hmem x (by rw [he];exact hx)) hlen;unfold UB;rw [u5z h1,u5z h2,h3];exact this
def spo (out:List Str) (s:Str):List Str:=if (out.any fun y=>s==y)=false then out++[s] else out
theorem w9q (x:X) (out:List Str):x3b x out=FC x.kids (if x.op=2 then spo out x.name else out):=by
 rw [x7o];unfold spo;by_cases h:x.op=2
 ·rw [if_pos h];by_cases h2:(out.any fun y=>x.name==y)=false
  ·rw [if_pos ⟨h,h2⟩,if_pos h2]
  ·rw [if_neg (fun hh=>h2 hh.2),if_neg h2]
 ·rw [if_neg h,if_neg (fun hh=>h hh.1)]
theorem q2u (out:List Str) (s:Str) (ho:out.length<=1073741824):SpecH prog 225 [.hd 2000 0 out.length,.p (.str s)] (x8t 9 out) (fun r H=>r = .hd 2000 0 (spo out s).length∧H=x8t 9 (spo out s)):=by
 refine sH PA func225 rfl call225 ?_;conv=>whnf
 repeat' (refine iM fun _=>?_;conv=>whnf)
 have hl:(out.map AV.str).length=out.length:=u3k _;refine LoopK.inv QX (fun j:Nat=>⟨[(0,.hd 2000 0 out.length),(1,.p (.str s)),(7,.hd 2000 0 out.length),(8,.p (.int .i64 out.length)),(9,.p (.int .i64 j))],x8t 9 out⟩) (fun j=>j<=out.length∧(out.drop j).any (fun y=>s==y)=out.any fun y=>s==y) (fun j=>out.length-j) 0 (Le.of_eq rfl) ⟨u3l _,rfl⟩ ?_;rintro j ⟨h2,h3⟩;rcases u3r j out.length with hj|hj
 ·have g:(out.map AV.str)[j]? = some (.str out[j]):=by simp [hj]
  conv=>whnf
  repeat' (first|((first|refine u3d rfl ?_|refine wI ?_|refine u5q j rfl (by omega) ?_|refine u5y j 0 _ (by omega) g ?_);conv=>whnf)|(apply bD<;>intro _<;>first|omega|conv=>whnf)|(apply bB<;>intro _<;>conv=>whnf))
  ·have he:(s==out[j])=true:=by rw [Bool.beq_comm];assumption
   have e:=q1u (p:=fun y=>s==y) hj he;rw [h3] at e;have hs:spo out s=out:=by unfold spo;rw [if_neg (by rw [e];decide)]
   exact ⟨_,.refl _,by rw [hs];exact ⟨rfl,rfl⟩⟩
  ·have he:(s==out[j])=false:=by rw [Bool.beq_comm];assumption
   exact ⟨j+1,⟨by omega,by rw [<- h3,q0u (p:=fun y=>s==y) hj he]⟩,by omega,Le.of_eq rfl⟩
 ·have e:=HI (p:=fun y=>s==y) (l:=out) hj;rw [h3] at e;have hs:spo out s=out++[s]:=by unfold spo;rw [if_pos e]
  rw [hs];conv=>whnf
  repeat' (first|((first|refine u3d rfl ?_|refine aD ?_|refine bP ?_|refine QH (by simp) (by simp;omega) ?_);conv=>whnf)|(apply bD<;>intro _<;>first|omega|conv=>whnf))
  exact ⟨_,.refl _,by simp only [x8t,u3f,u3t];exact ⟨rfl,rfl⟩⟩
theorem q7p : ∀ (n:Nat) (_:n<=20) (x:X) (_:VO n x=true) (out:List Str) (_:out.length+2 ^ n<=1073741824),
  SpecH prog 145 [.p (.agg x.cells),.hd 2000 0 out.length] (x8t 9 out) (fun r H=>r = .hd 2000 0 (x3b x out).length∧H=x8t 9 (x3b x out)):=by
 intro n;induction n with
 | zero=>intro _ x h;rw [VO] at h;cases h
 | succ n ih =>
   intro hn x hx out ho;have hp:2 ^ (n+1)=2*2 ^ n:=by rw [Nat.pow_succ];omega
   have hpos:0<2 ^ n:=Nat.pow_pos (by decide);obtain ⟨hk1,hk2,hk3⟩:=q6z hx;have hxl:=X.avs_len x.kids;have hmul : ∀ j,j<x.kids.length->(x.kids.length-j)*2 ^ n=(x.kids.length-(j+1))*2 ^ n+2 ^ n:=fun j hj=>by
    rw [show x.kids.length-j=(x.kids.length-(j+1))+1 by omega,u6j,Nat.one_mul]
   have hmul0:x.kids.length*2 ^ n<=2*2 ^ n:=u5k _ hk1;have hspl:(spo out x.name).length<=out.length+1:=by unfold spo;split<;>simp
   have hg:=w9q x out;have hz:x.op=2->x.kids.length*2 ^ n=0:=fun h=>by rw [hk2 h,Nat.zero_mul]
   rw [hg];have hS:=q2u out x.name (by omega);have hlen:(if x.op=2 then spo out x.name else out).length+x.kids.length*2 ^ n<=1073741824:=by
    split
    ·rename_i h;have:=hz h;omega
    ·omega
   clear hg;refine sH q0o func145 rfl call145 ?_;conv=>whnf
   generalize spo out x.name=o2 at *
   repeat' (first|(refine iM fun _=>?_;conv=>whnf)|(apply bD<;>intro _<;>first|omega|conv=>whnf)|(refine CallK.heap [(2000,2000)] 0 (by repeat' (first|exact u4s|refine u4w ?_ ?_|exact u4v _|exact u4p Sub.nils|exact u4p (Sub.tt rfl)|exact u4p (Sub.ff rfl)|exact u4p (Sub.int (by omega)))) (by refine u4x (j:=2000) rfl rfl ?_ ?_;exact CSub.refl _;exact u4c) hS rfl rfl ?_;rintro l' H' ⟨rfl,rfl⟩;conv=>whnf))
   all_goals
    first
    | rw [if_pos (by assumption)] at hlen ⊢
    | rw [if_neg (by assumption)] at hlen ⊢
   rotate_left 1;generalize out=o2 at *
   all_goals
    refine LoopK.inv QX (fun i:Nat×List Str=>⟨[(1,.hd 2000 0 i.2.length),(2,.p (.ip x.cells)),(15,.p (.int .i64 (X.avs x.kids).length)),(16,.p (.int .i64 i.1))],x8t 9 i.2⟩) (fun i=>i.1<=x.kids.length∧FC (x.kids.drop i.1) i.2=FC x.kids o2∧i.2.length+(x.kids.length-i.1)*2 ^ n<=1073741824) (fun i=>x.kids.length-i.1) (0,o2) (Le.of_eq rfl) ⟨u3l _,rfl,by simpa using hlen⟩ ?_;rintro ⟨j,acc⟩ ⟨h2,h3,h4⟩;simp only at h2 h3 h4 ⊢;rcases u3r j x.kids.length with hj|hj
    ·have hm:=hmul j hj;have hg:=z5k n x.kids[j] acc (hk3 _ (u3i hj));have hI:=ih (by omega) x.kids[j] (hk3 _ (u3i hj)) acc (by omega);conv=>whnf
     repeat' (first|((first|refine IdxK.xs (by omega) ?_|refine wI ?_);conv=>whnf)|(apply bD<;>intro _<;>first|omega|conv=>whnf)|(refine CallK.heap [(2000,2000)] 0 (by repeat' (first|exact u4s|refine u4w ?_ ?_|exact u4v _|exact u4p Sub.nils|exact u4p (Sub.tt rfl)|exact u4p (Sub.ff rfl)|exact u4p (Sub.int (by omega)))) (by refine u4x (j:=2000) rfl rfl ?_ ?_;exact CSub.refl _;exact u4c) hI rfl rfl ?_;rintro l' H' ⟨rfl,rfl⟩;conv=>whnf))
     all_goals exact ⟨(j+1,x3b x.kids[j] acc),⟨by simp only;omega,by simp only;rw [<- h3,x5u hj],by simp only;omega⟩,by simp only;omega,Le.of_eq rfl⟩
    ·rw [z2q (by omega)] at h3;conv=>whnf
     repeat' (apply bD<;>intro _<;>first|omega|conv=>whnf)
     exact ⟨_,.refl _,by rw [h3];exact ⟨rfl,rfl⟩⟩
theorem BL (x:X):SpecP prog 144 [.agg x.cells] (fun r=>r = .bool (w1f x)):=by
 refine sB YA func144 rfl call144 ?_;conv=>whnf
 repeat' (first|((first|(refine CallK.pure (DJ 20 (by omega) x) (.cons (Sub.refl _) (.cons (Sub.refl _) .nil)) ?_;rintro _ rfl)|(refine CallK.pure (DK (wX x+1) x (by omega)) (.cons (Sub.refl _) .nil) ?_;rintro _ rfl));conv=>whnf)|(apply bD<;>intro _<;>first|omega|conv=>whnf))
 all_goals rw [<- z5r]
 all_goals first
  | exact RetK.bool (by unfold mayXR;rw [u5z (by omega)];rfl)
  | exact RetK.ff (by unfold mayXR;rw [u5h (by omega)];rfl)
theorem x5e (x:X):SpecH prog 85 ([AV.agg x.cells].map .p) [] (OneRow (x0k (QS x)) (QS x=[])):=by
 refine sH LY func85 rfl call85 ?_;conv=>whnf
 have hM:=BL x;cases hm:w1f x with
 | false =>
   have e:QS x=[]:=by unfold QS;rw [hm];rfl
   rw [hm] at hM;rw [e];repeat' (first|(refine cP hM ?_;conv=>whnf)|(apply bN<;>intro _<;>conv=>whnf))
   all_goals first
    | exact u6h _ (u4v _) (.inl ⟨rfl,rfl,rfl⟩)
    | (exfalso;simp_all;done)
 | true =>
   have e:QS x=x3b x []:=by unfold QS;rw [hm];rfl
   rw [hm] at hM;rw [e];repeat' (first|(refine cP hM ?_;conv=>whnf)|(apply bN<;>intro _<;>conv=>whnf))
   all_goals first
    | (exfalso;simp_all;done)
    | (refine CallK.nil 5 9 1 rfl (.cons rfl (.row .nil)) ?_
       refine CallK.heap [(2000,5)] 0 (by repeat' (first|exact u4s|refine u4w ?_ ?_|exact u4v _|exact u4p Sub.nils|exact u4p (Sub.tt rfl)|exact u4p (Sub.ff rfl)|exact u4p (Sub.int (by omega)))) (by refine u4x (j:=5) rfl rfl ?_ ?_;exact CSub.refl _;exact u4c) (q7p 20 (by omega) x (by assumption) [] (by simp)) rfl rfl ?_;rintro l' H' ⟨rfl,rfl⟩;conv=>whnf
       exact u6h _ (u4v _) (UH rfl))
theorem YM (x:X):SpecP prog 85 [.agg x.cells] (fun r=>r=eStrs (QS x)):=(x5e x).toP (fun h=>by rw [h];rfl) fun _ _ _ _ h=>h.2.2
theorem x2r {s:S} (h:oneOk s=true->False):oneOk s=false:=by
 cases hq:oneOk s with
 | false=>rfl
 | true=>exact (h hq).elim
theorem q2v (s:S):SpecP prog 172 [.agg s.cells] (fun r=>r = .bool (oneOk s)):=by
 refine sB q2o func172 rfl call172 ?_;conv=>whnf
 have hal:(s.args.map fun a=>AV.agg a.cells).length=s.args.length:=u3k _;have htl:((S.avs s.thn).length:Int)=s.thn.length:=by rw [S.avs_len]
 have hel:((S.avs s.els).length:Int)=s.els.length:=by rw [S.avs_len]
 repeat' (first|((first|(refine iM fun _=>?_)|refine cP (ZX _) ?_|refine cP (YL _) ?_|refine cP (DH _) ?_|refine cP (KG _) ?_|refine HZ QX rfl rfl rfl rfl rfl ?_);conv=>whnf)|(apply bD<;>intro _<;>first|omega|conv=>whnf)|(apply bE<;>intro _<;>first|omega|conv=>whnf)|(apply bN<;>intro _<;>conv=>whnf)|(apply bB<;>intro _<;>conv=>whnf))
 all_goals simp only [show (ByteArray.mk #[]).data.toList=[] from rfl] at *
 all_goals first
  | (refine RetK.ff (x2r fun h => ?_)
     obtain ⟨f1,f2,f3,f4,f5,f6,f7,f8,f9,f10,f11,f12,f13,f14⟩:=JN h;first
      | omega
      | (exfalso;simp_all [hasXB];done)
      | (exfalso;simp_all [hasXB];omega)
      | (rename_i hq
         by_cases hk:s.kind=4
         ·have h15:=q6b (f9 hk);simp_all
          done
         ·have h15:=f10 hk;simp_all
          done))
  | skip
 all_goals
  have G:s.args.all argR=true->(s.thn.length=0∨s.kind=5∨s.kind=6)->(s.els.length=0∨s.kind=5)->oneOk s=true:=fun g1 g2 g3=>by
   refine v0y ⟨by assumption,by omega,by omega,fun q => ?_,fun q => ?_,fun q => ?_,fun q => ?_,fun q => ?_,fun q => ?_,fun q => ?_,g1,fun q => ?_,g2,g3⟩;all_goals clear hal htl hel g1 g2 g3
   all_goals first
    | omega
    | assumption
    | (simp_all [hasXB];done)
    | (simp_all [hasXB];omega)
    | (have h4:(s.kind==4) = !(s.proc==[]):=by assumption
       have h5:(s.kind==4)=false:=u8b.2 (by assumption);rw [h5] at h4
       revert h4
       cases (s.proc==[])<;>simp
       done)
  refine LoopK.inv QX (fun j:Nat=>⟨[(1,.p (.ip s.cells)),(143,.p (.sl (s.args.map fun a => .agg a.cells))),(144,.p (.int .i64 (s.args.map fun a=>AV.agg a.cells).length)),(145,.p (.int .i64 j))],[]⟩) (fun j=>j<=s.args.length∧(s.args.drop j).all argR=s.args.all argR) (fun j=>s.args.length-j) 0 (Le.of_eq rfl) ⟨u3l _,rfl⟩ ?_;rintro j ⟨h2,h3⟩;rcases u3r j s.args.length with hj|hj
  ·conv=>whnf
   repeat' (first|((first|refine cP (q9h _) ?_|refine u3d rfl ?_|(refine iA fun _=>?_)|refine wI ?_);conv=>whnf)|(apply bD<;>intro _<;>first|omega|conv=>whnf)|(apply bN<;>intro _<;>conv=>whnf))
   all_goals first
    | exact ⟨j+1,⟨hj,by rw [HE hj (by assumption)];exact h3⟩,by omega,Le.of_eq rfl⟩
    | (refine RetK.ff (x2r fun h => ?_)
       have h4:=u5t.1 (JN h).args _ (u3i hj);simp_all)
  ·rw [HA hj] at h3;have G:=G h3.symm;conv=>whnf
   repeat' (first|(refine iM fun _=>?_;conv=>whnf)|(apply bD<;>intro _<;>first|omega|conv=>whnf))
   all_goals first
    | exact RetK.tt (G (by omega) (by omega))
    | (refine RetK.ff (x2r fun h => ?_)
       have F1:=(JN h).thn;have F2:=(JN h).els;omega)
    | (refine RetK.bool ?_
       first
        | rw [u6a,u6m]
        | rw [u6a,u4b]
       exact ⟨fun q=>G (by omega) (by omega),fun h=>by have F1:=(JN h).thn;have F2:=(JN h).els;omega⟩)
theorem NM {p:Pg} (h:UB p=true->False):UB p=false:=by
 cases hq:UB p with
 | false=>rfl
 | true=>exact (h hq).elim
theorem GR (p:Pg):SpecP prog 105 [.agg p.cells] (fun r=>r = .bool (UB p)):=by
 refine sB q2s func105 rfl call105 ?_;conv=>whnf
 have hgl:(p.globals.map AV.str).length=p.globals.length:=u3k _;have hpl:(p.procs.map fun f=>AV.agg f.cells).length=p.procs.length:=u3k _;repeat' (first|((first|(refine iM fun _=>?_)|refine cP (YL _) ?_);conv=>whnf)|(apply bD<;>intro _<;>first|omega|conv=>whnf)|(apply bN<;>intro _<;>conv=>whnf))
 all_goals first
  | (refine RetK.ff (NM fun h => ?_)
     have F:=NN h;have F1:=F.gl;have F2:=F.pl;have F3:=F.gn;first
      | omega
      | (simp_all;done))
  | skip
 have G1:p.globals.length<=16:=by omega
 have G2:p.procs.length<=16:=by omega
 have G3:namesB p.globals=true:=by assumption
 refine LoopK.inv QX (fun j:Nat=>⟨[(1,.p (.ip p.cells)),(26,.p (.sl (p.procs.map fun f => .agg f.cells))),(27,.p (.int .i64 (p.procs.map fun f=>AV.agg f.cells).length)),(28,.p (.int .i64 j))],[]⟩) (fun j=>j<=p.procs.length ∧ ∀ m (hm:m<p.procs.length),m<j->FX p.procs[m]=true) (fun j=>p.procs.length-j) 0 (Le.of_eq rfl) ⟨u3l _,fun m hm h=>absurd h (u9t _)⟩ ?_;rintro j ⟨h2,G4⟩;rcases u3r j p.procs.length with hj|hj
 ·have hpm:(p.procs[j].params.map fun a=>AV.agg a.cells).length=p.procs[j].params.length:=u3k _;have hvs:(p.procs[j].vars.map AV.str).length=p.procs[j].vars.length:=u3k _;conv=>whnf
  repeat' (first|((first|(refine iM fun _=>?_)|refine cP (YL _) ?_|refine cP (ZX _) ?_|refine u3d rfl ?_|(refine iA fun _=>?_));conv=>whnf)|(apply bD<;>intro _<;>first|omega|conv=>whnf)|(apply bN<;>intro _<;>conv=>whnf))
  all_goals first
   | (refine RetK.ff (NM fun h => ?_)
      obtain ⟨F1,F2,F3,F4,F5,F6⟩:=(NN h).pr _ (u3i hj);first
       | omega
       | (simp_all;done))
   | skip
  have G5:(p.procs[j].params.all fun a=>isName a.name)=true->FX p.procs[j]=true:=fun g=>FE.2 ⟨by omega,by omega,by assumption,by assumption,by assumption,g⟩;refine LoopK.inv QX (fun k:Nat=>⟨[(1,.p (.ip p.cells)),(26,.p (.sl (p.procs.map fun f => .agg f.cells))),(27,.p (.int .i64 (p.procs.map fun f=>AV.agg f.cells).length)),(28,.p (.int .i64 j)),(61,.p (.sl (p.procs[j].params.map fun a => .agg a.cells))),(62,.p (.int .i64 (p.procs[j].params.map fun a=>AV.agg a.cells).length)),(63,.p (.int .i64 k))],[]⟩) (fun k=>k<=p.procs[j].params.length∧(p.procs[j].params.drop k).all (fun a=>isName a.name)=p.procs[j].params.all fun a=>isName a.name) (fun k=>p.procs[j].params.length-k) 0 (Le.of_eq rfl) ⟨u3l _,rfl⟩ ?_;rintro k ⟨h3,h4⟩;rcases u3r k p.procs[j].params.length with hk|hk
  ·conv=>whnf
   repeat' (first|((first|refine cP (ZX _) ?_|refine u3d rfl ?_|(refine iA fun _=>?_)|refine wI ?_);conv=>whnf)|(apply bD<;>intro _<;>first|omega|conv=>whnf)|(apply bN<;>intro _<;>conv=>whnf))
   ·exact ⟨k+1,⟨hk,by rw [<- h4,HE (p:=fun a:Param=>isName a.name) hk (by assumption)]⟩,by omega,Le.of_eq rfl⟩
   ·refine RetK.ff (NM fun h => ?_);have h5:=u5t.1 ((NN h).pr _ (u3i hj)).2.2.2.2.2 _ (u3i hk);simp_all
  ·rw [HA hk] at h4;have G6:=G5 h4.symm;conv=>whnf
   repeat' (first|(refine wI ?_;conv=>whnf)|(apply bD<;>intro _<;>first|omega|conv=>whnf))
   refine ⟨j+1,⟨hj,fun m hm hmj => ?_⟩,by omega,Le.of_eq rfl⟩;rcases u3r m j with h5|h5
   ·exact G4 m hm h5
   ·obtain rfl:m=j:=by omega
    exact G6
 ·have G5 : ∀ f∈p.procs,FX f=true:=fun f hf=>by
   obtain ⟨m,hm,rfl⟩:=u5w.1 hf;exact G4 m hm (by omega)
  conv=>whnf
  have hrl:=WA (allR p);repeat' (first|((first|(refine iM fun _=>?_)|refine cP (KX _) ?_);conv=>whnf)|(apply bD<;>intro _<;>first|omega|conv=>whnf))
  ·refine RetK.ff (NM fun h => ?_);have:=(NN h).len;omega
  have G6:(allR p).length<=200:=by omega
  refine LoopK.inv QX (fun k:Nat=>⟨[(7,.p (VM (allR p))),(79,.p (.int .i64 ((allR p).map fun i=>AV.agg i.cells).length)),(80,.p (.int .i64 k))],[]⟩) (fun k=>k<=(allR p).length ∧ ∀ (m:Nat) (x:RI),m<k->(allR p)[m]? = some x->x.s.id=(m:Int)+1∧x.deep<=12∧oneOk x.s=true) (fun k=>(allR p).length-k) 0 (Le.of_eq rfl) ⟨u3l _,fun m x h=>absurd h (u9t _)⟩ ?_;rintro k ⟨h3,G7⟩;rcases u3r k (allR p).length with hk|hk
  ·conv=>whnf
   have F:=fun h:UB p=true=>(NN h).its k _ (u3h hk);repeat' (first|((first|(refine iA fun _=>?_)|refine wI ?_|refine cP (q2v (allR p)[k].s) ?_);conv=>whnf)|(apply bD<;>intro _<;>first|omega|conv=>whnf)|(apply bE<;>intro _<;>first|omega|conv=>whnf)|(apply bN<;>intro _<;>conv=>whnf))
   all_goals first
    | (refine ⟨k+1,⟨hk,fun m x hm hx => ?_⟩,by omega,Le.of_eq rfl⟩
       rcases u3r m k with h5|h5
       ·exact G7 m x h5 hx
       ·obtain rfl:m=k:=by omega
        rw [u3h hk] at hx;obtain rfl:=u6y hx;exact ⟨by omega,by omega,by assumption⟩)
    | (refine RetK.ff (NM fun h => ?_)
       obtain ⟨F1,F2,F3⟩:=F h;first
        | omega
        | (simp_all
           done))
  ·conv=>whnf
   repeat' (apply bD<;>intro _<;>first|omega|conv=>whnf)
   exact RetK.tt (v7k G1 G2 G3 G5 G6 fun m x hx=>G7 m x (by have:=(u3e.1 hx).1;omega) hx)
def q6e (p:Pg) (n:Str):Pr×Bool:=bif UB p then YC p n else (Pr0,false)
theorem KF (p:Pg) (n:Str):SpecP prog 54 [.agg p.cells,.str n] (fun r=>r = .tup [.agg (q6e p n).1.cells,.bool (q6e p n).2]):=by
 refine sB q1x func54 rfl call54 ?_;conv=>whnf
 have hpl:(p.procs.map fun f=>AV.agg f.cells).length=p.procs.length:=u3k _;repeat' (first|((first|(refine iM fun _=>?_)|refine cP (GR _) ?_|refine u3d rfl ?_);conv=>whnf)|(apply bB<;>intro _<;>conv=>whnf))
 ·have hM:q6e p n=YC p n:=by unfold q6e;rw [show UB p=true by assumption];rfl
  rw [hM];refine LoopK.inv QX (fun j:Nat=>⟨[(1,.p (.str n)),(4,.ptr 1 0),(11,.p (.sl (p.procs.map fun f => .agg f.cells))),(12,.p (.int .i64 (p.procs.map fun f=>AV.agg f.cells).length)),(13,.p (.int .i64 j))],[(1,.obj 90 [.p (.str []),.p .nils,.p .nils,.p .nils,.p .nils])]⟩) (fun j=>j<=p.procs.length∧(p.procs.drop j).find? (fun f=>f.name==n)=p.procs.find? fun f=>f.name==n) (fun j=>p.procs.length-j) 0 (Le.of_eq rfl) ⟨u3l _,rfl⟩ ?_;rintro j ⟨h2,h3⟩;rcases u3r j p.procs.length with hj|hj
  ·rw [QF hj,u9r] at h3;conv=>whnf
   repeat' (first|((first|refine u3d rfl ?_|(refine iA fun _=>?_)|refine wI ?_);conv=>whnf)|(apply bD<;>intro _<;>first|omega|conv=>whnf)|(apply bB<;>intro _<;>conv=>whnf))
   ·have hn:(p.procs[j].name==n)=true:=by assumption
    rw [hn] at h3;exact ⟨_,.p (Sub.tup (SubL.cons (Sub.refl _) (SubL.cons (Sub.tt rfl) SubL.nil))),by unfold YC;rw [<- h3];first|done|rfl⟩
   ·have hn:(p.procs[j].name==n)=false:=by assumption
    rw [hn] at h3;exact ⟨j+1,⟨hj,h3⟩,by omega,Le.of_eq rfl⟩
  ·rw [u4z hj,u9c] at h3;conv=>whnf
   repeat' (first|(refine u3d rfl ?_;conv=>whnf)|(apply bD<;>intro _<;>first|omega|conv=>whnf))
   exact ⟨_,.p (Sub.tup (SubL.cons z6b (SubL.cons (Sub.ff rfl) SubL.nil))),by unfold YC;rw [<- h3];first|done|rfl⟩
 ·have hM:q6e p n=(Pr0,false):=by unfold q6e;rw [show UB p=false by assumption];rfl
  rw [hM];exact ⟨_,.p (Sub.tup (SubL.cons z6b (SubL.cons (Sub.ff rfl) SubL.nil))),rfl⟩
end Go.Ab
