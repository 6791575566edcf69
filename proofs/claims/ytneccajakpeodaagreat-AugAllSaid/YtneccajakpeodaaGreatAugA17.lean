/- LAW: from each statement ways lead through what stands in it; whoever stands in something hangs on it. -/
import Derived.Test.YtneccajakpeodaaGreatAugA9
import Derived.Test.YtneccajakpeodaaGreatAugA14
import Derived.Test.YtneccajakpeodaaGreatAugA15
import Derived.Test.YtneccajakpeodaaGreatAugA16
set_option linter.unusedSimpArgs false
set_option linter.unusedVariables false
set_option maxRecDepth 100000
set_option maxHeartbeats 16000000
namespace Go.Ab
open Go.Proofs
def rng (a b:Int) (v:Int):Prop:=a≤v∧v≤b
theorem z3y {proc up nx lp:Int} {n:Nat} {nest m:Int} {l:List S} (h:ZV nest n l=some m) {it:Item} (hi:it∈itL proc up nx lp n l):(n:Int)+1≤it.s.id∧it.s.id≤(n:Int)+QY l:=by
 have h1:it.s∈flL l:=by
  rw [← NF proc up nx lp n l]
  exact List.mem_map.2 ⟨it,hi,rfl⟩
 have h2:it.s.id∈JC n (QY l):=by
  rw [← YQ nest l h]
  exact List.mem_map.2 ⟨it.s,h1,rfl⟩
 have:=q3d h2
 omega
open Go.Proofs
def itemR (l:List RI) (id:Int):RI:=(l.find? fun x=>decide (x.s.id=id)).getD RI0
def inI (i:Int) (e:Bool) (y:RI):Bool:=decide (y.inn=i)&&(y.els==e)
def stdR (l:List RI) (x:RI):List Int:=(l.filter (inI x.inn x.els)).map fun y=>y.s.id
def nextIn:List Int→Int→Option Int
 | a::b::r,x=>if a=x then some b else nextIn (b::r) x
 | _,_=>none
inductive BehP (l:List RI):Int→Int→Prop
 | next {id v:Int} (h:nextIn (stdR l (itemR l id)) id=some v):BehP l id v
 | exit {id:Int} (h:nextIn (stdR l (itemR l id)) id=none) (h0:(itemR l id).inn=0):BehP l id (-1)
 | loop {id:Int} (h:nextIn (stdR l (itemR l id)) id=none) (h0:(itemR l id).inn≠0) (hk:(itemR l (itemR l id).inn).s.kind=6):BehP l id (itemR l id).inn
 | up {id v:Int} (h:nextIn (stdR l (itemR l id)) id=none) (h0:(itemR l id).inn≠0) (hk:(itemR l (itemR l id).inn).s.kind≠6) (hb:BehP l (itemR l id).inn v):BehP l id v
def w1k (l:List RI) (id:Int) (e:Bool) (o:Int):Int:=((l.find? (inI id e)).map fun y=>y.s.id).getD o
theorem z5h {l:List RI} (hn:(l.map fun x=>x.s.id).Nodup) {x:RI} (hx:x∈l):itemR l x.s.id=x:=by
 unfold itemR
 cases hf:l.find? fun y=>decide (y.s.id=x.s.id) with
 | none =>
   have:=List.find?_eq_none.1 hf x hx
   simp at this
 | some y =>
   have h1:=List.mem_of_find?_eq_some hf
   have h2:=List.find?_some hf
   simp only [decide_eq_true_eq] at h2
   exact NC hn y h1 x hx h2
mutual
theorem z4e (d i:Int) (e:Bool) : ∀ (t:S) {nest m:Int} {n:Nat},q3h nest n t=some m → ∀ x∈fuS d i e t,(x.s=t∧x.inn=i∧x.els=e)∨((n:Int)+1≤x.inn∧x.inn≤(n:Int)+ZU t)
 | .mk id kind labels name pr x has args thn els,nest,m,n,h,y,hy=>by
   obtain ⟨_,hid,m1,h3,h4⟩:=ZW h
   have hid:id=(n:Int)+1:=hid
   have hc:ZU (.mk id kind labels name pr x has args thn els)=1+QY thn+QY els:=WZ _
   have hm1:=ZD _ _ thn h3
   have h3':ZV (nest+1) ((n+1:Nat):Int) thn=some m1:=by rw [← h3];rfl
   have h4':ZV (nest+1) ((n+1+QY thn:Nat):Int) els=some m:=by
    rw [← h4,hm1]
    congr 1
   rw [fuS] at hy
   rcases List.mem_cons.1 hy with rfl|hy
   ·exact .inl ⟨rfl,rfl,rfl⟩
   rcases List.mem_append.1 hy with hy|hy
   ·have:=JS (d+1) id false thn h3' y hy
    refine .inr ?_
    rcases this with h5|h5<;>omega
   ·have:=JS (d+1) id true els h4' y hy
    refine .inr ?_
    rcases this with h5|h5<;>omega
theorem JS (d i:Int) (e:Bool) : ∀ (l:List S) {nest m:Int} {n:Nat},ZV nest n l=some m → ∀ x∈fuL d i e l,(x.inn=i)∨((n:Int)+1≤x.inn∧x.inn≤(n:Int)+QY l)
 | [],_,_,_,_,y,hy=>by rw [fuL] at hy;cases hy
 | t::r,nest,m,n,h,y,hy=>by
   obtain ⟨_,m1,h1,h2⟩:=XD h
   have hm1:=YX _ _ t h1
   have h2':ZV nest ((n+ZU t:Nat):Int) r=some m:=by rw [← h2,hm1];rfl
   have hc:QY (t::r)=ZU t+QY r:=by rw [QY]
   rw [fuL] at hy
   rcases List.mem_append.1 hy with hy|hy
   ·rcases z4e d i e t h1 y hy with h5|h5
    ·exact .inl h5.2.1
    ·refine .inr ?_
     omega
   ·rcases JS d i e r h2' y hy with h5|h5
    ·exact .inl h5
    ·refine .inr ?_
     omega
end
theorem ZI {α:Type} {l:List α} {q:α→Bool} (h : ∀ x∈l,q x=false):l.filter q=[]:=by
 rw [List.filter_eq_nil_iff]
 intro x hx
 rw [h x hx]
 decide
theorem ML {i:Int} {e:Bool} {y:RI} (h:y.inn≠i):inI i e y=false:=by
 unfold inI
 rw [decide_eq_false h]
 rfl
theorem w0m {i:Int} {e:Bool} {y:RI} (h:y.els≠e):inI i e y=false:=by
 unfold inI
 rw [beq_eq_false_iff_ne.2 h]
 exact Bool.and_false _
theorem w0u {i:Int} {e:Bool} {y:RI} (h:y.inn=i) (h':y.els=e):inI i e y=true:=by
 unfold inI
 rw [decide_eq_true h,h']
 simp
theorem z8m (d i:Int) (e:Bool) : ∀ (l:List S) {nest m:Int} {n:Nat},ZV nest n l=some m→i≤n→((fuL d i e l).filter (inI i e)).map (fun y=>y.s.id)=l.map S.id
 | [],_,_,_,_,_=>by rw [fuL];rfl
 | t::r,nest,m,n,h,hi=>by
   obtain ⟨_,m1,h1,h2⟩:=XD h
   obtain ⟨_,hid,m2,h3,h4⟩:=ZW h1
   have hm1:=YX _ _ t h1
   have h2':ZV nest ((n+ZU t:Nat):Int) r=some m:=by rw [← h2,hm1];rfl
   have hm2:=ZD _ _ t.thn h3
   have h3':ZV (nest+1) ((n+1:Nat):Int) t.thn=some m2:=by rw [← h3];rfl
   have h4':ZV (nest+1) ((n+1+QY t.thn:Nat):Int) t.els=some m1:=by rw [← h4,hm2];congr 1
   have hn1:=ZI (l:=fuL (d+1) t.id false t.thn) (q:=inI i e) fun x hx=>ML (by rcases JS _ _ _ _ h3' x hx with h5|h5<;>omega)
   have hn2:=ZI (l:=fuL (d+1) t.id true t.els) (q:=inI i e) fun x hx=>ML (by rcases JS _ _ _ _ h4' x hx with h5|h5<;>omega)
   rw [fuL,q8o,List.cons_append,List.filter_cons_of_pos (show inI i e (⟨t,d,i,e⟩:RI)=true from w0u rfl rfl),List.filter_append,List.filter_append,hn1,hn2,List.append_nil,List.nil_append,List.map_cons,z8m d i e r h2' (by omega),List.map_cons]
theorem q5w (d i:Int) (e e':Bool) (he:e≠e') : ∀ (l:List S) {nest m:Int} {n:Nat},ZV nest n l=some m→i≤n→(fuL d i e l).filter (inI i e')=[]
 | [],_,_,_,_,_=>by rw [fuL];rfl
 | t::r,nest,m,n,h,hi=>by
   obtain ⟨_,m1,h1,h2⟩:=XD h
   obtain ⟨_,hid,m2,h3,h4⟩:=ZW h1
   have hm1:=YX _ _ t h1
   have h2':ZV nest ((n+ZU t:Nat):Int) r=some m:=by rw [← h2,hm1];rfl
   have hm2:=ZD _ _ t.thn h3
   have h3':ZV (nest+1) ((n+1:Nat):Int) t.thn=some m2:=by rw [← h3];rfl
   have h4':ZV (nest+1) ((n+1+QY t.thn:Nat):Int) t.els=some m1:=by rw [← h4,hm2];congr 1
   have hn1:=ZI (l:=fuL (d+1) t.id false t.thn) (q:=inI i e') fun x hx=>ML (by rcases JS _ _ _ _ h3' x hx with h5|h5<;>omega)
   have hn2:=ZI (l:=fuL (d+1) t.id true t.els) (q:=inI i e') fun x hx=>ML (by rcases JS _ _ _ _ h4' x hx with h5|h5<;>omega)
   rw [fuL,q8o,List.cons_append,List.filter_cons_of_neg (by rw [w0m he];decide),List.filter_append,List.filter_append,hn1,hn2,List.append_nil,List.nil_append,q5w d i e e' he r h2' (by omega)]
mutual
theorem w3b (d i:Int) (e:Bool) : ∀ (t:S) {nest m:Int} {n:Nat},q3h nest n t=some m→i≤n → ∀ u∈flS t,∀ b,((fuS d i e t).filter (inI u.id b)).map (fun y=>y.s.id)=(bif b then u.els else u.thn).map S.id
 | .mk id kind labels name pr x has args thn els,nest,m,n,h,hi,u,hu,b=>by
   obtain ⟨_,hid,m1,h3,h4⟩:=ZW h
   have hid:id=(n:Int)+1:=hid
   have hm1:=ZD _ _ thn h3
   have h3':ZV (nest+1) ((n+1:Nat):Int) thn=some m1:=by rw [← h3];rfl
   have h4':ZV (nest+1) ((n+1+QY thn:Nat):Int) els=some m:=by
    rw [← h4,hm1]
    congr 1
   have rg : ∀ {l:List S} {q:Nat} {nest m:Int},ZV nest q l=some m → ∀ u∈flL l,(q:Int)+1≤u.id∧u.id≤(q:Int)+QY l:=fun {l q nest m} hr u hu=>by
    have h2:u.id∈JC q (QY l):=by
     rw [← YQ nest l hr]
     exact List.mem_map.2 ⟨u,hu,rfl⟩
    have:=q3d h2
    omega
   have hne:u.id≠i:=by
    rw [flS] at hu
    rcases List.mem_cons.1 hu with rfl|hu
    ·show id≠i
     omega
    rcases List.mem_append.1 hu with hu|hu
    ·have:=rg h3' u hu
     omega
    ·have:=rg h4' u hu
     omega
   rw [fuS,List.filter_cons_of_neg (by rw [ML (Ne.symm hne)];decide),List.filter_append,List.map_append]
   rw [flS] at hu
   rcases List.mem_cons.1 hu with rfl|hu
   ·show List.map _ (List.filter (inI id b) _)++List.map _ (List.filter (inI id b) _)=_
    cases b with
    | true=>rw [q5w (d+1) id false true (by decide) thn h3' (by omega),z8m (d+1) id true els h4' (by omega)];rfl
    | false=>rw [q5w (d+1) id true false (by decide) els h4' (by omega),z8m (d+1) id false thn h3' (by omega),List.map_nil,List.append_nil];rfl
   rcases List.mem_append.1 hu with hu|hu
   ·have hr:=rg h3' u hu
    have hn2:=ZI (l:=fuL (d+1) id true els) (q:=inI u.id b) fun x hx=>ML (by rcases JS _ _ _ _ h4' x hx with h5|h5<;>omega)
    rw [hn2,z8x (d+1) id false thn h3' (by omega) u hu b,List.map_nil,List.append_nil]
   ·have hr:=rg h4' u hu
    have hn2:=ZI (l:=fuL (d+1) id false thn) (q:=inI u.id b) fun x hx=>ML (by rcases JS _ _ _ _ h3' x hx with h5|h5<;>omega)
    rw [hn2,z8x (d+1) id true els h4' (by omega) u hu b,List.map_nil,List.nil_append]
theorem z8x (d i:Int) (e:Bool) : ∀ (l:List S) {nest m:Int} {n:Nat},ZV nest n l=some m→i≤n → ∀ u∈flL l,∀ b,((fuL d i e l).filter (inI u.id b)).map (fun y=>y.s.id)=(bif b then u.els else u.thn).map S.id
 | [],_,_,_,_,_,u,hu,_=>by rw [flL] at hu;cases hu
 | t::r,nest,m,n,h,hi,u,hu,b=>by
   obtain ⟨_,m1,h1,h2⟩:=XD h
   have hm1:=YX _ _ t h1
   have h2':ZV nest ((n+ZU t:Nat):Int) r=some m:=by rw [← h2,hm1];rfl
   have rg : ∀ {l:List S} {q:Nat} {nest m:Int},ZV nest q l=some m → ∀ u∈flL l,(q:Int)+1≤u.id∧u.id≤(q:Int)+QY l:=fun {l q nest m} hr u hu=>by
    have h2:u.id∈JC q (QY l):=by
     rw [← YQ nest l hr]
     exact List.mem_map.2 ⟨u,hu,rfl⟩
    have:=q3d h2
    omega
   rw [fuL,List.filter_append,List.map_append]
   rw [flL] at hu
   rcases List.mem_append.1 hu with hu|hu
   ·have hr:(n:Int)+1≤u.id∧u.id≤(n:Int)+ZU t:=by
     have h5:ZV nest n [t]=some m1:=by
      rw [ZV,if_neg (by have:=(XD h).1;omega),h1]
      simp only
      rw [ZV]
     have:=rg h5 u (by rw [flL,flL,List.append_nil];exact hu)
     rw [QY,QY] at this
     omega
    have hn2:=ZI (l:=fuL d i e r) (q:=inI u.id b) fun x hx=>ML (by rcases JS _ _ _ _ h2' x hx with h5|h5<;>omega)
    rw [hn2,w3b d i e t h1 hi u hu b,List.map_nil,List.append_nil]
   ·have hr:=rg h2' u hu
    have hn2:=ZI (l:=fuS d i e t) (q:=inI u.id b) fun x hx=>ML (by rcases z4e _ _ _ _ h1 x hx with h5|h5<;>omega)
    rw [hn2,z8x d i e r h2' (by omega) u hu b,List.map_nil,List.nil_append]
end
theorem x4r : ∀ (pre:List Int) {a:Int} {r:List Int},(pre++a::r).Nodup→nextIn (pre++a::r) a=r.head?
 | [],a,[],_=>rfl
 | [],a,b::r,_=>by show (if a=a then some b else _)=_;rw [if_pos rfl];rfl
 | x::pre,a,r,hn=>by
   have hn':(x::(pre++a::r)).Nodup:=hn
   rw [List.nodup_cons] at hn'
   have hne:x≠a:=fun e=>hn'.1 (e▸List.mem_append.2 (.inr List.mem_cons_self))
   have ih:=x4r pre hn'.2
   show nextIn (x::(pre++a::r)) a=_
   cases hq:pre++a::r with
   | nil=>simp at hq
   | cons y q =>
     rw [hq] at ih
     show (if x=a then some y else nextIn (y::q) a)=_
     rw [if_neg hne,ih]
def w5s (L:List RI) (i nx:Int):Prop:=(i=0∧nx = -1)∨(i≠0∧(itemR L i).s.kind=6∧nx=i)∨(i≠0∧(itemR L i).s.kind≠6∧BehP L i nx)
mutual
theorem w5e {L:List RI} (hN:(L.map fun x=>x.s.id).Nodup) (hK : ∀ x∈L,∀ b,(L.filter (inI x.s.id b)).map (fun y=>y.s.id)=(bif b then x.s.els else x.s.thn).map S.id) (proc d i:Int) (e:Bool) : ∀ (t:S) {nest m:Int} (nx lp:Int) (n:Nat),q3h nest n t=some m→(∀ x∈fuS d i e t,x∈L)→BehP L t.id nx → ∀ it∈itS proc i nx lp n t,BehP L it.s.id it.next
 | .mk id kind labels name pr x has args thn els,nest,m,nx,lp,n,h,hL,hb,it,hi=>by
   obtain ⟨_,hid,m1,h3,h4⟩:=ZW h
   have hid:id=(n:Int)+1:=hid
   have hm1:=ZD _ _ thn h3
   have h3':ZV (nest+1) ((n+1:Nat):Int) thn=some m1:=by rw [← h3];rfl
   have h4':ZV (nest+1) ((n+1+QY thn:Nat):Int) els=some m:=by
    rw [← h4,hm1]
    congr 1
   rw [fuS] at hL
   have hx:=hL _ List.mem_cons_self
   have hit:=z5h hN hx
   have k1:=hK _ hx false
   have k2:=hK _ hx true
   have haft:w5s L id (if kind=6 then (n:Int)+1 else nx):=by
    have hit':itemR L id=⟨.mk id kind labels name pr x has args thn els,d,i,e⟩:=hit
    by_cases hk:kind=6
    ·rw [if_pos hk]
     exact .inr (.inl ⟨by omega,by rw [hit'];exact hk,hid.symm⟩)
    ·rw [if_neg hk]
     exact .inr (.inr ⟨by omega,by rw [hit'];exact hk,hb⟩)
   rw [itS] at hi
   rcases List.mem_cons.1 hi with rfl|hi
   ·exact hb
   rw [← hid] at hi
   rcases List.mem_append.1 hi with hi|hi
   ·exact w3z hN hK proc (d+1) id false thn _ _ (n+1) [] h3' (fun y hy=>hL y (List.mem_cons_of_mem _ (List.mem_append.2 (.inl hy)))) k1 (by rw [hid] at haft ⊢;exact haft) it hi
   ·exact w3z hN hK proc (d+1) id true els _ _ (n+1+QY thn) [] h4' (fun y hy=>hL y (List.mem_cons_of_mem _ (List.mem_append.2 (.inr hy)))) k2 (by rw [hid] at haft ⊢;exact haft) it hi
theorem w3z {L:List RI} (hN:(L.map fun x=>x.s.id).Nodup) (hK : ∀ x∈L,∀ b,(L.filter (inI x.s.id b)).map (fun y=>y.s.id)=(bif b then x.s.els else x.s.thn).map S.id) (proc d i:Int) (e:Bool) : ∀ (l:List S) {nest m:Int} (nx lp:Int) (n:Nat) (pre:List S),ZV nest n l=some m→(∀ x∈fuL d i e l,x∈L)→(L.filter (inI i e)).map (fun y=>y.s.id)=(pre++l).map S.id→w5s L i nx → ∀ it∈itL proc i nx lp n l,BehP L it.s.id it.next
 | [],_,_,_,_,_,_,_,_,_,_,it,hi=>by rw [itL] at hi;cases hi
 | t::r,nest,m,nx,lp,n,pre,h,hL,hR,ha,it,hi=>by
   obtain ⟨_,m1,h1,h2⟩:=XD h
   have hm1:=YX _ _ t h1
   have h2':ZV nest ((n+ZU t:Nat):Int) r=some m:=by rw [← h2,hm1];rfl
   rw [fuL] at hL
   have hx:(⟨t,d,i,e⟩:RI)∈L:=hL _ (List.mem_append.2 (.inl (by rw [q8o];exact List.mem_cons_self)))
   have hit:itemR L t.id=⟨t,d,i,e⟩:=z5h hN hx
   have hnd:((pre++t::r).map S.id).Nodup:=by
    rw [← hR]
    exact (List.filter_sublist.map _).nodup hN
   have hnx:nextIn (stdR L (itemR L t.id)) t.id=r.head?.map S.id:=by
    unfold stdR
    rw [hit,hR]
    rw [List.map_append,List.map_cons] at hnd ⊢
    rw [x4r _ hnd,List.head?_map]
   have hb:BehP L t.id (if r.isEmpty then nx else n+1+ZU t):=by
    cases r with
    | nil =>
      show BehP L t.id nx
      rw [List.head?_nil,Option.map_none] at hnx
      have hin:(itemR L t.id).inn=i:=by rw [hit]
      rcases ha with ⟨h5,h6⟩|⟨h5,h6,h7⟩|⟨h5,h6,h7⟩
      ·rw [h6]
       exact .exit hnx (by rw [hin];exact h5)
      ·rw [h7]
       have:=BehP.loop hnx (by rw [hin];exact h5) (by rw [hin];exact h6)
       rwa [hin] at this
      ·exact .up hnx (by rw [hin];exact h5) (by rw [hin];exact h6) (by rw [hin];exact h7)
    | cons u r =>
      rw [if_neg (by simp)]
      refine .next ?_
      rw [hnx]
      obtain ⟨_,m3,h8,_⟩:=XD h2'
      have hu:=(ZW h8).2.1
      show some u.id=_
      rw [hu]
      congr 1
      omega
   rw [itL] at hi
   rcases List.mem_append.1 hi with hi|hi
   ·exact w5e hN hK proc d i e t _ lp n h1 (fun y hy=>hL y (List.mem_append.2 (.inl hy))) hb it hi
   ·exact w3z hN hK proc d i e r nx lp (n+ZU t) (pre++[t]) h2' (fun y hy=>hL y (List.mem_append.2 (.inr hy))) (by rw [hR,List.append_assoc];rfl) ha it hi
end

def KY:List RI→Int→Int×Bool
 | [],_=>(0,false)
 | x::r,i=>if i=0 then (0,false) else if x.s.id=i then (if x.s.kind=6 then (i,true) else KY r x.inn) else KY r i
def x5v:List RI→Int→Int×Bool
 | [],_=>(0,false)
 | x::r,id=>if x.s.id=id then (if (KY r x.inn).2 then KY r x.inn else x5v r id) else x5v r id
theorem z0j {l:List RI} {n:Nat} (hn:n<l.length) (i:Int):KY (l.take (n+1)).reverse i=if i=0 then (0,false) else if l[n].s.id=i then (if l[n].s.kind=6 then (i,true) else KY (l.take n).reverse l[n].inn) else KY (l.take n).reverse i:=by
 rw [List.take_succ_eq_append_getElem hn,List.reverse_append]
 show KY (l[n]::(l.take n).reverse) i=_
 rw [KY]
theorem x3l {l:List RI} {n:Nat} (hn:n<l.length) (i:Int):x5v (l.take (n+1)).reverse i=if l[n].s.id=i then (if (KY (l.take n).reverse l[n].inn).2 then KY (l.take n).reverse l[n].inn else x5v (l.take n).reverse i) else x5v (l.take n).reverse i:=by
 rw [List.take_succ_eq_append_getElem hn,List.reverse_append]
 show x5v (l[n]::(l.take n).reverse) i=_
 rw [x5v]
theorem z1a : ∀ (l:List RI),KY l 0=(0,false)
 | []=>rfl
 | x::r=>by rw [KY,if_pos rfl]
theorem q8f : ∀ (l r:List RI) {i:Int},i≠0→(∀ x∈l,x.s.id≠i)→KY (l++r) i=KY r i
 | [],_,_,_,_=>rfl
 | x::l,r,i,h0,h=>by rw [List.cons_append,KY,if_neg h0,if_neg (h x List.mem_cons_self),q8f l r h0 fun y hy=>h y (List.mem_cons_of_mem _ hy)]
mutual
theorem w6n (proc d i:Int) (e:Bool) : ∀ (t:S) {nest m:Int} (nx lp:Int) (n:Nat),q3h nest n t=some m→(itS proc i nx lp n t).map (fun it=>(it.s,it.up))=(fuS d i e t).map fun x=>(x.s,x.inn)
 | .mk id kind labels name pr x has args thn els,nest,m,nx,lp,n,h=>by
   obtain ⟨_,hid,m1,h3,h4⟩:=ZW h
   have hid:id=(n:Int)+1:=hid
   have hm1:=ZD _ _ thn h3
   have h3':ZV (nest+1) ((n+1:Nat):Int) thn=some m1:=by rw [← h3];rfl
   have h4':ZV (nest+1) ((n+1+QY thn:Nat):Int) els=some m:=by
    rw [← h4,hm1]
    congr 1
   rw [itS,fuS,List.map_cons,List.map_cons,List.map_append,List.map_append,← hid,w2y proc (d+1) id false thn _ _ _ h3',w2y proc (d+1) id true els _ _ _ h4']
theorem w2y (proc d i:Int) (e:Bool) : ∀ (l:List S) {nest m:Int} (nx lp:Int) (n:Nat),ZV nest n l=some m→(itL proc i nx lp n l).map (fun it=>(it.s,it.up))=(fuL d i e l).map fun x=>(x.s,x.inn)
 | [],_,_,_,_,_,_=>by rw [itL,fuL];rfl
 | t::r,nest,m,nx,lp,n,h=>by
   obtain ⟨_,m1,h1,h2⟩:=XD h
   have hm1:=YX _ _ t h1
   have h2':ZV nest ((n+ZU t:Nat):Int) r=some m:=by rw [← h2,hm1];rfl
   rw [itL,fuL,List.map_append,List.map_append,w6n proc d i e t _ _ _ h1,w2y proc d i e r _ _ _ h2']
end

mutual
theorem lpS (proc:Int) : ∀ (t:S) {nest m:Int} (up nx lp:Int) (n:Nat),q3h nest n t=some m → ∀ it∈itS proc up nx lp n t,(it.up=up∧it.loop=lp) ∨ ∃ iu∈itS proc up nx lp n t,iu.s.id=it.up∧iu.s.id<it.s.id∧it.loop=if iu.s.kind=6 then iu.s.id else iu.loop
 | .mk id kind labels name pr x has args thn els,nest,m,up,nx,lp,n,h,it,hi=>by
   obtain ⟨_,hid,m1,h3,h4⟩:=ZW h
   have hid:id=(n:Int)+1:=hid
   have hm1:=ZD _ _ thn h3
   have h3':ZV (nest+1) ((n+1:Nat):Int) thn=some m1:=by rw [← h3];rfl
   have h4':ZV (nest+1) ((n+1+QY thn:Nat):Int) els=some m:=by
    rw [← h4,hm1]
    congr 1
   rw [itS] at hi ⊢
   rcases List.mem_cons.1 hi with rfl|hi
   ·exact .inl ⟨rfl,rfl⟩
   rcases List.mem_append.1 hi with hi|hi
   ·have hr:=z3y h3' hi
    rcases lpL proc thn _ _ _ (n+1) h3' it hi with ⟨h5,h6⟩|⟨iu,h5,h6⟩
    ·refine .inr ⟨_,List.mem_cons_self,?_,?_,?_⟩
     ·rw [h5];exact hid
     ·show id<_
      omega
     ·rw [h6]
      show (if kind=6 then (n:Int)+1 else lp)=if kind=6 then id else lp
      rw [hid]
    ·exact .inr ⟨iu,List.mem_cons_of_mem _ (List.mem_append.2 (.inl h5)),h6⟩
   ·have hr:=z3y h4' hi
    rcases lpL proc els _ _ _ (n+1+QY thn) h4' it hi with ⟨h5,h6⟩|⟨iu,h5,h6⟩
    ·refine .inr ⟨_,List.mem_cons_self,?_,?_,?_⟩
     ·rw [h5];exact hid
     ·show id<_
      omega
     ·rw [h6]
      show (if kind=6 then (n:Int)+1 else lp)=if kind=6 then id else lp
      rw [hid]
    ·exact .inr ⟨iu,List.mem_cons_of_mem _ (List.mem_append.2 (.inr h5)),h6⟩
theorem lpL (proc:Int) : ∀ (l:List S) {nest m:Int} (up nx lp:Int) (n:Nat),ZV nest n l=some m → ∀ it∈itL proc up nx lp n l,(it.up=up∧it.loop=lp) ∨ ∃ iu∈itL proc up nx lp n l,iu.s.id=it.up∧iu.s.id<it.s.id∧it.loop=if iu.s.kind=6 then iu.s.id else iu.loop
 | [],nest,m,up,nx,lp,n,h,it,hi=>by rw [itL] at hi;cases hi
 | t::r,nest,m,up,nx,lp,n,h,it,hi=>by
   obtain ⟨_,m1,h1,h2⟩:=XD h
   have hm1:=YX _ _ t h1
   have h2':ZV nest ((n+ZU t:Nat):Int) r=some m:=by rw [← h2,hm1];rfl
   rw [itL] at hi ⊢
   rcases List.mem_append.1 hi with hi|hi
   ·rcases lpS proc t up _ lp n h1 it hi with h5|⟨iu,h5,h6⟩
    ·exact .inl h5
    ·exact .inr ⟨iu,List.mem_append.2 (.inl h5),h6⟩
   ·rcases lpL proc r up nx lp (n+ZU t) h2' it hi with h5|⟨iu,h5,h6⟩
    ·exact .inl h5
    ·exact .inr ⟨iu,List.mem_append.2 (.inr h5),h6⟩
end
section
variable {p:Pg} {j:Nat} {f:Pr}
theorem x0g (h:VX p=true) (hj:p.procs[j]? = some f):(flatU f).map (fun x=>x.s.id)=JC (QR p.procs j) (QY f.body):=by
 obtain ⟨m,hr⟩:=PF h hj
 rw [← YQ 1 f.body hr]
 have:=BH 1 0 false f.body
 rw [← this,List.map_map]
 rfl
theorem x9e (h:VX p=true) (hj:p.procs[j]? = some f):((flatU f).map fun x=>x.s.id).Nodup:=by
 rw [x0g h hj]
 exact q0i _ _
theorem x1r {t:S} (ht:t∈flL f.body) : ∃ x∈flatU f,x.s=t:=by
 rw [← show (flatU f).map RI.s=flL f.body from BH 1 0 false f.body] at ht
 exact List.mem_map.1 ht
theorem x2s (h:VX p=true) (hj:p.procs[j]? = some f) : ∀ x∈flatU f,∀ b,((flatU f).filter (inI x.s.id b)).map (fun y=>y.s.id)=(bif b then x.s.els else x.s.thn).map S.id:=fun x hx b=>by
 obtain ⟨m,hr⟩:=PF h hj
 refine z8x 1 0 false f.body hr (by omega) x.s ?_ b
 rw [← BH 1 0 false f.body]
 exact List.mem_map.2 ⟨x,hx,rfl⟩
theorem q9v (h:VX p=true) (hj:p.procs[j]? = some f):((flatU f).filter (inI 0 false)).map (fun y=>y.s.id)=f.body.map S.id:=by
 obtain ⟨m,hr⟩:=PF h hj
 exact z8m 1 0 false f.body hr (by omega)
theorem x1y (h:VX p=true) (hj:p.procs[j]? = some f) {it:Item} (hi:it∈itsOf p j f):BehP (flatU f) it.s.id it.next:=by
 obtain ⟨m,hr⟩:=PF h hj
 exact w3z (x9e h hj) (x2s h hj) (j:Nat) 1 0 false f.body (-1) 0 (QR p.procs j) [] hr (fun x hx=>hx) (by rw [q9v h hj];rfl) (.inl ⟨rfl,rfl⟩) it hi
theorem x3g {l:List RI} {q:RI→Bool}:((l.find? q).map fun y=>y.s.id)=((l.filter q).map fun y=>y.s.id).head? := by
 rw [List.head?_map,List.head?_filter]
theorem q8y (l:List S) (o:Int):((l.map S.id).head?).getD o=q6o l o:=by
 cases l<;>rfl
theorem q1f (h:VX p=true) (hj:p.procs[j]? = some f) {t:S} (ht:t∈flL f.body) (b:Bool) (o:Int):w1k (flatU f) t.id b o=q6o (bif b then t.els else t.thn) o:=by
 obtain ⟨x,hx,rfl⟩:=x1r ht
 unfold w1k
 rw [x3g,x2s h hj x hx b,q8y]
theorem x6f (h:VX p=true) (hj:p.procs[j]? = some f) (o:Int):w1k (flatU f) 0 false o=q6o f.body o:=by
 unfold w1k
 rw [x3g,q9v h hj,q8y]
theorem q4w (h:VX p=true) (hj:p.procs[j]? = some f) {it:Item} (hi:it∈itsOf p j f):x5v (flatU f).reverse it.s.id=(it.loop,decide (it.loop≠0)):=by
 obtain ⟨m,hr⟩:=PF h hj
 have hpar:=w2y (j:Nat) 1 0 false f.body (-1) 0 (QR p.procs j) hr
 have hids:=x0g h hj
 have hlp:=fun it hi=>lpL (j:Nat) f.body 0 (-1) 0 (QR p.procs j) hr it hi
 have hib:=fun it (hi:it∈itsOf p j f)=>FL h hj (q7z hi)
 have hinj:=fun a (ha:a∈itsOf p j f) b (hb:b∈itsOf p j f) he=>w2t h hj ha hb he
 have e1:itL (j:Nat) 0 (-1) 0 (QR p.procs j) f.body=itsOf p j f:=rfl
 have e2:fuL 1 0 false f.body=flatU f:=rfl
 rw [e1] at hpar hlp
 rw [e2] at hpar
 have hlen:(itsOf p j f).length=(flatU f).length:=by simpa using congrArg List.length hpar
 have at_ : ∀ (k:Nat) (hk:k<(flatU f).length),((itsOf p j f)[k]'(by omega)).s=(flatU f)[k].s∧((itsOf p j f)[k]'(by omega)).up=(flatU f)[k].inn:=fun k hk=>by
  have h1:=congrArg (fun l=>l[k]?) hpar
  simp only [List.getElem?_map,List.getElem?_eq_getElem hk,List.getElem?_eq_getElem (show k<(itsOf p j f).length by omega),Option.map_some] at h1
  have h2:=Option.some.inj h1
  exact ⟨congrArg Prod.fst h2,congrArg Prod.snd h2⟩
 have idk : ∀ (k:Nat) (hk:k<(flatU f).length),(flatU f)[k].s.id=(QR p.procs j:Int)+1+k:=fun k hk=>by
  have h1:=congrArg (fun l=>l[k]?) hids
  have hk2:k<QY f.body:=by have:=WB 1 0 false f.body;rw [e2] at this;omega
  unfold JC at h1
  simp only [List.getElem?_map,List.getElem?_eq_getElem hk,Option.map_some,List.getElem?_range' hk2] at h1
  have:=Option.some.inj h1
  omega
 have key : ∀ (k:Nat) (hk:k<(flatU f).length),KY ((flatU f).take k).reverse (flatU f)[k].inn=(((itsOf p j f)[k]'(by omega)).loop,decide (((itsOf p j f)[k]'(by omega)).loop≠0)):=fun k=>by
  induction k using Nat.strongRecOn with
  | _ k ih =>
    intro hk
    obtain ⟨a1,a2⟩:=at_ k hk
    have hki:=idk k hk
    rcases hlp _ (List.getElem_mem (show k<(itsOf p j f).length by omega)) with ⟨h5,h6⟩|⟨iu,h5,h6,h7,h8⟩
    ·rw [← a2,h5,h6,z1a]
     rfl
    ·obtain ⟨q,hq,rfl⟩:=List.mem_iff_getElem.1 h5
     obtain ⟨b1,b2⟩:=at_ q (by omega)
     have hqi:=idk q (by omega)
     rw [a1] at h7
     rw [b1] at h6 h7
     have hqk:q<k:=by omega
     have htk:(flatU f).take k=(flatU f).take q++(flatU f)[q]::((flatU f).take k).drop (q+1):=by
      have h9:((flatU f).take k).take q++((flatU f).take k).drop q=(flatU f).take k:=List.take_append_drop q _
      rw [List.take_take,Nat.min_eq_left (by omega),List.drop_eq_getElem_cons (by rw [List.length_take];omega),List.getElem_take] at h9
      exact h9.symm
     have hi0:(flatU f)[k].inn≠0:=by rw [← a2,← h6];omega
     have hrev:((flatU f).take k).reverse=(((flatU f).take k).drop (q+1)).reverse++(flatU f)[q]::((flatU f).take q).reverse:=by
      rw [htk]
      have:((flatU f).take q++(flatU f)[q]::((flatU f).take k).drop (q+1)).drop (q+1)=((flatU f).take k).drop (q+1):=by rw [← htk]
      rw [this,List.reverse_append,List.reverse_cons,List.append_assoc]
      rfl
     rw [hrev,q8f _ _ hi0 (fun x hx=>by
      obtain ⟨z,hz,rfl⟩:=List.mem_iff_getElem.1 (List.mem_reverse.1 hx)
      rw [List.length_drop,List.length_take] at hz
      rw [List.getElem_drop,List.getElem_take,idk _ (by omega),← a2,← h6]
      omega)]
     rw [KY,if_neg hi0,if_pos (by rw [← a2,← h6])]
     rw [h8,b1]
     split
     ·rename_i hk6
      rw [← a2,← h6,decide_eq_true (by omega)]
     ·exact ih q hqk (by omega)
 obtain ⟨k,hk,rfl⟩:=List.mem_iff_getElem.1 hi
 have hkU:k<(flatU f).length:=by omega
 obtain ⟨a1,a2⟩:=at_ k hkU
 have scan : ∀ (n:Nat),n≤(flatU f).length→x5v ((flatU f).take n).reverse (flatU f)[k].s.id=if k<n then (((itsOf p j f)[k]'(by omega)).loop,decide (((itsOf p j f)[k]'(by omega)).loop≠0)) else (0,false):=fun n=>by
  induction n with
  | zero=>intro _;rfl
  | succ n ih =>
    intro hn
    rw [x3l (show n<(flatU f).length by omega),ih (by omega)]
    have hki:=idk k hkU
    have hni:=idk n (by omega)
    by_cases he:n=k
    ·subst he
     rw [if_pos rfl,key n hkU,if_neg (Nat.lt_irrefl n),if_pos (Nat.lt_succ_self n)]
     by_cases h0:((itsOf p j f)[n]'(by omega)).loop=0
     ·rw [h0]
      rfl
     ·rw [decide_eq_true h0,if_pos rfl]
    ·rw [if_neg (show ¬(flatU f)[n].s.id=(flatU f)[k].s.id by omega)]
     by_cases hlt:k<n
     ·rw [if_pos hlt,if_pos (show k<n+1 by omega)]
     ·rw [if_neg hlt,if_neg (show ¬k<n+1 by omega)]
 have:=scan (flatU f).length (Nat.le_refl _)
 rw [List.take_length,if_pos hkU] at this
 rw [a1]
 exact this
end
open Go.Proofs
theorem q3t {α:Type} {R:α→α→Prop} (irr : ∀ a,¬R a a) (tr : ∀ a b c,R a b→R b c→R a c) : ∀ {l m:List α},l.Pairwise R→m.Pairwise R→(∀ s,s∈l↔s∈m)→l=m
 | [],[],_,_,_=>rfl
 | [],b::m,_,_,h=>by have:=(h b).2 List.mem_cons_self;cases this
 | a::l,[],_,_,h=>by have:=(h a).1 List.mem_cons_self;cases this
 | a::l,b::m,hl,hm,h=>by
   rw [List.pairwise_cons] at hl hm
   have hab:a=b:=by
    rcases List.mem_cons.1 ((h a).1 List.mem_cons_self) with h1|h1
    ·exact h1
    rcases List.mem_cons.1 ((h b).2 List.mem_cons_self) with h2|h2
    ·exact h2.symm
    exact absurd (tr _ _ _ (hl.1 b h2) (hm.1 a h1)) (irr a)
   subst hab
   rw [q3t irr tr hl.2 hm.2 fun s => ?_]
   constructor
   ·intro hs
    rcases List.mem_cons.1 ((h s).1 (List.mem_cons_of_mem _ hs)) with rfl|h1
    ·exact absurd (hl.1 s hs) (irr s)
    ·exact h1
   ·intro hs
    rcases List.mem_cons.1 ((h s).2 (List.mem_cons_of_mem _ hs)) with rfl|h1
    ·exact absurd (hm.1 s hs) (irr s)
    ·exact h1
theorem x9w : ∀ (x y:List UInt8),Op.bytesLess x y=decide (x<y)
 | [],[]=>by simp [Op.bytesLess]
 | _::_,[]=>by simp [Op.bytesLess]
 | [],_::_=>by simp [Op.bytesLess]
 | a::x,b::y=>by
   rw [Op.bytesLess,x9w x y]
   simp only [List.cons_lt_cons_iff]
   by_cases h1:a<b<;>by_cases h2:a=b<;>by_cases h3:x<y<;>simp [h1,h2,h3]
def ltT (a b:Str):Prop:=Op.bytesLess a b=true
theorem FT {a b:Str}:ltT a b↔a<b:=by
 unfold ltT
 rw [x9w,decide_eq_true_eq]
theorem ltT.irr (a:Str) : ¬ltT a a:=fun h=>List.lt_irrefl a (FT.1 h)
theorem ltT.trans (a b c:Str) (h1:ltT a b) (h2:ltT b c):ltT a c:=FT.2 (List.lt_trans (FT.1 h1) (FT.1 h2))
theorem ltT.total {a b:Str} (h:a≠b):ltT a b∨ltT b a:=by
 by_cases h1:a<b
 ·exact .inl (FT.2 h1)
 ·rcases List.le_iff_lt_or_eq.1 (List.not_lt.1 h1) with h2|h2
  ·exact .inr (FT.2 h2)
  ·exact absurd h2.symm h
theorem x8c (l:List Str):(UB l).Pairwise fun a b=>a≤b:=by
 have:=List.pairwise_mergeSort (le:=fun x y:Str=>decide (x≤y)) (fun a b c h1 h2=>by
  rw [decide_eq_true_eq] at h1 h2 ⊢
  exact List.le_trans h1 h2) (fun a b=>by
  rcases List.le_total a b with h|h
  ·rw [decide_eq_true h];rfl
  ·rw [decide_eq_true h];exact Bool.or_true _) l
 exact this.imp fun h=>by simpa using h
theorem x3x {l:List Str} (h:l.Pairwise fun a b=>a≤b):(Go.Lib.compact l).Pairwise ltT:=by
 unfold Go.Lib.compact Go.Lib.compactUpTo
 rw [List.pairwise_map]
 refine (List.Pairwise.filter _ (List.pairwise_lt_range (n:=l.length))).imp_of_mem fun {i k} hi hk hlt => ?_
 obtain ⟨hi1,_⟩:=List.mem_filter.1 hi
 obtain ⟨hk1,hk2⟩:=List.mem_filter.1 hk
 rw [List.mem_range] at hi1 hk1
 have le : ∀ (a b:Nat) (_:a≤b) (hb:b<l.length),l[a]'(by omega)≤l[b]:=fun a b hab hb=>by
  rcases Nat.lt_or_ge a b with h1|h1
  ·exact List.pairwise_iff_getElem.1 h a b (by omega) hb h1
  ·obtain rfl:a=b:=by omega
   exact List.le_refl _
 have g : ∀ (a:Nat) (ha:a<l.length),l.toArray[a]! = l[a]:=fun a ha=>by simp [ha]
 rw [g i hi1,g k hk1]
 unfold Go.Lib.keeps at hk2
 rw [decide_eq_true_eq,g k hk1,g (k-1) (by omega)] at hk2
 have hne:l[k]≠l[k-1]'(by omega):=by
  rcases hk2 with h0|h0
  ·omega
  ·exact h0
 have h1:=le i (k-1) (by omega) (by omega)
 have h2:=le (k-1) k (by omega) hk1
 rcases List.le_iff_lt_or_eq.1 h2 with h3|h3
 ·exact FT.2 (List.lt_of_le_of_lt h1 h3)
 ·exact absurd h3.symm hne
def q6l (l:List Str):List Str:=Go.Lib.compact (UB l)
theorem z5u {l:List Str} {s:Str}:s∈q6l l↔s∈l:=by unfold q6l;rw [q6v,MA]
theorem z1p (l:List Str):(q6l l).Pairwise ltT:=x3x (x8c l)
theorem x8s {l m:List Str} (h:m.Pairwise ltT) (hm : ∀ s,s∈m↔s∈l):m=q6l l:=q3t ltT.irr ltT.trans h (z1p l) fun s=>by rw [hm,z5u]
theorem x7q {l:List Str} (h:l.Nodup):UB l=q6l l:=by
 refine x8s ?_ fun s=>MA
 have hn:(UB l).Nodup:=by
  unfold UB
  exact (List.mergeSort_perm l _).nodup_iff.2 h
 refine (List.pairwise_and_iff.2 ⟨x8c l,hn⟩).imp fun ⟨h1,h2⟩ => ?_
 rcases List.le_iff_lt_or_eq.1 h1 with h3|h3
 ·exact FT.2 h3
 ·exact absurd h3 h2
open Go.Proofs
structure RiseI {α:Type} (R:α→α→Prop) (l out:List α) (i:Nat):Prop where
 rise:out.Pairwise R
 sub : ∀ s∈out,s∈l
 seg : ∀ s∈l,s∉out → ∀ o∈out,R o s
 cnt:(∀ s∈l,s∈out)∨out.length=i
def LeastI {α:Type} (R:α→α→Prop) (l out:List α) (k:Nat):Option α→Prop
 | none => ∀ s∈l.take k,s∈out
 | some m=>m∈l∧m∉out ∧ ∀ s∈l.take k,s∉out→s=m∨R m s
section
variable {α:Type} {R:α→α→Prop} {l out:List α} {i k:Nat}
theorem RiseI.zero:RiseI R l [] 0:=⟨.nil,fun _ h=>(by cases h),fun _ _ _ _ h=>(by cases h),.inr rfl⟩
theorem LeastI.zero:LeastI R l out 0 none:=fun s h=>by rw [List.take_zero] at h;cases h
theorem QC {s:α} (hk:k<l.length):s∈l.take (k+1)↔s∈l.take k∨s=l[k]:=by
 rw [List.take_succ_eq_append_getElem hk,List.mem_append,List.mem_singleton]
theorem LeastI.old (hk:k<l.length) {o:Option α} (h:LeastI R l out k o) (hx:l[k]∈out):LeastI R l out (k+1) o:=by
 cases o with
 | none =>
   intro s hs
   rcases (QC hk).1 hs with h1|rfl
   ·exact h s h1
   ·exact hx
 | some m =>
   refine ⟨h.1,h.2.1,fun s hs hn => ?_⟩
   rcases (QC hk).1 hs with h1|rfl
   ·exact h.2.2 s h1 hn
   ·exact absurd hx hn
theorem LeastI.first (hk:k<l.length) (h:LeastI R l out k none) (hx:l[k]∉out):LeastI R l out (k+1) (some l[k]):=by
 refine ⟨List.getElem_mem hk,hx,fun s hs hn => ?_⟩
 rcases (QC hk).1 hs with h1|rfl
 ·exact absurd (h s h1) hn
 ·exact .inl rfl
theorem LeastI.less (tr : ∀ a b c,R a b→R b c→R a c) (hk:k<l.length) {m:α} (h:LeastI R l out k (some m)) (hx:l[k]∉out) (hR:R l[k] m):LeastI R l out (k+1) (some l[k]):=by
 refine ⟨List.getElem_mem hk,hx,fun s hs hn => ?_⟩
 rcases (QC hk).1 hs with h1|rfl
 ·rcases h.2.2 s h1 hn with rfl|h2
  ·exact .inr hR
  ·exact .inr (tr _ _ _ hR h2)
 ·exact .inl rfl
theorem LeastI.more (tot : ∀ a b,a≠b→R a b∨R b a) (hk:k<l.length) {m:α} (h:LeastI R l out k (some m)) (hR : ¬R l[k] m):LeastI R l out (k+1) (some m):=by
 refine ⟨h.1,h.2.1,fun s hs hn => ?_⟩
 rcases (QC hk).1 hs with h1|rfl
 ·exact h.2.2 s h1 hn
 ·by_cases he:l[k]=m
  ·exact .inl he
  ·exact .inr ((tot _ _ he).resolve_left hR)
theorem RiseI.stay (h:RiseI R l out i) (hl:LeastI R l out l.length none):RiseI R l out (i+1):=by
 rw [LeastI,List.take_length] at hl
 exact ⟨h.rise,h.sub,h.seg,.inl hl⟩
theorem RiseI.snoc (h:RiseI R l out i) {m:α} (hl:LeastI R l out l.length (some m)):RiseI R l (out++[m]) (i+1):=by
 obtain ⟨h1,h2,h3⟩:=hl
 rw [List.take_length] at h3
 refine ⟨?_,fun s hs => ?_,fun s hs hn o ho => ?_,?_⟩
 ·rw [List.pairwise_append]
  exact ⟨h.rise,List.pairwise_singleton _ _,fun a ha b hb=>by rw [List.mem_singleton.1 hb];exact h.seg m h1 h2 a ha⟩
 ·rcases List.mem_append.1 hs with h4|h4
  ·exact h.sub s h4
  ·rw [List.mem_singleton.1 h4];exact h1
 ·rw [List.mem_append,not_or,List.mem_singleton] at hn
  rcases List.mem_append.1 ho with h4|h4
  ·exact h.seg s hs hn.1 o h4
  ·rw [List.mem_singleton.1 h4]
   exact (h3 s hs hn.1).resolve_left hn.2
 ·rcases h.cnt with h4|h4
  ·exact absurd (h4 m h1) h2
  ·exact .inr (by rw [List.length_append,h4];rfl)
theorem RiseI.nodup (irr : ∀ a,¬R a a) (h:RiseI R l out i):out.Nodup:=by
 unfold List.Nodup
 refine h.rise.imp fun {a b} hR e => ?_
 subst e
 exact irr _ hR
theorem RiseI.all [DecidableEq α] (irr : ∀ a,¬R a a) (h:RiseI R l out i) (hi:i=l.length):out.Pairwise R ∧ ∀ s,s∈out↔s∈l:=by
 refine ⟨h.rise,fun s=>⟨h.sub s,fun hs => ?_⟩⟩
 rcases h.cnt with h4|h4
 ·exact h4 s hs
 ·refine Classical.byContradiction fun hn => ?_
  have hnd:(s::out).Nodup:=List.nodup_cons.2 ⟨hn,h.nodup irr⟩
  have:=VK hnd (m:=l) fun x hx=>by
   rcases List.mem_cons.1 hx with rfl|hx
   ·exact hs
   ·exact h.sub x hx
  rw [List.length_cons] at this
  omega
theorem RiseI.len [DecidableEq α] (irr : ∀ a,¬R a a) (h:RiseI R l out i):out.length≤l.length:=VK (h.nodup irr) h.sub
end
def ordP (a b:Int):Prop:=z8p a b=true
theorem GD {a b:Int}:ordP a b↔(b = -1∧a ≠ -1)∨(a ≠ -1∧b ≠ -1∧a<b):=by
 unfold ordP z8p
 by_cases ha:a = -1<;>by_cases hb:b = -1<;>simp [ha,hb]
theorem ordP.irr (a:Int) : ¬ordP a a:=fun h=>by rw [GD] at h;omega
theorem ordP.trans (a b c:Int) (h1:ordP a b) (h2:ordP b c):ordP a c:=by rw [GD] at *;omega
theorem ordP.total (a b:Int) (h:a≠b):ordP a b∨ordP b a:=by rw [GD,GD];omega
theorem z2g {l m:List Int} (h1:l.Pairwise ordP) (h2:m.Pairwise ordP) (h : ∀ s,s∈l↔s∈m):l=m:=q3t ordP.irr ordP.trans h1 h2 h
open Go.Proofs
theorem q2h (l:List Str) (x:Str):inS l x=l.any fun s=>x==s:=by
 unfold inS
 congr 1
 funext s
 exact Bool.beq_comm
theorem ZP {l:List Str}:XW l=false↔l.Nodup:=by
 refine ⟨z6b,fun h => ?_⟩
 unfold XW
 rw [List.any_eq_false]
 intro i hi
 rw [List.mem_range] at hi
 rw [Bool.not_eq_true,List.any_eq_false]
 intro s hs he
 rw [List.getElem?_eq_getElem hi] at he
 have he:l[i]=s:=eq_of_beq he
 obtain ⟨k,hk,rfl⟩:=List.mem_iff_getElem.1 hs
 rw [List.length_take] at hk
 rw [List.getElem_take] at he
 have:=(List.getElem_inj h).1 he
 omega
theorem PZ : ∀ (l seen:List Str),seen.Nodup→((VD seen l).isSome=true↔(seen++l).Nodup)
 | [],seen,h=>by rw [VD,List.append_nil];exact ⟨fun _=>h,fun _=>rfl⟩
 | n::r,seen,h=>by
   rw [VD]
   cases hc:(seen.any fun s=>n==s) with
   | true =>
     rw [cond_true]
     obtain ⟨s,hs,he⟩:=List.any_eq_true.1 hc
     have he:n=s:=eq_of_beq he
     refine ⟨fun h=>by (cases h),fun h2 => ?_⟩
     rw [List.nodup_append] at h2
     exact absurd rfl (h2.2.2 s hs n List.mem_cons_self |> fun hh=>he▸hh)
   | false =>
     rw [cond_false]
     have hn:n∉seen:=fun hm=>by
      have:=List.any_eq_false.1 hc n hm
      simp at this
     have h1:(seen++[n]).Nodup:=by
      rw [List.nodup_append]
      exact ⟨h,by simp,fun a ha b hb e=>hn (by rw [← List.mem_singleton.1 hb,← e];exact ha)⟩
     rw [PZ r (seen++[n]) h1,List.append_assoc]
     rfl
theorem x3t (f:Pr) : ∀ (its:List Item) (seen:List Str),seen.Nodup→((∃ s,UD f its seen = .ok s)↔(∀ it∈its,VQ f it=true)∧(seen++its.flatMap fun it=>it.s.labels).Nodup)
 | [],seen,h=>by
   rw [UD]
   refine ⟨fun _=>⟨fun _ hh=>(by cases hh),by simpa using h⟩,fun _=>⟨seen,rfl⟩⟩
 | it::r,seen,h=>by
   have hj:=PZ it.s.labels seen h
   rw [UD]
   cases hq:VD seen it.s.labels with
   | none =>
     rw [hq] at hj
     refine ⟨fun ⟨s,hs⟩=>by (cases hs),fun ⟨_,h2⟩ => ?_⟩
     have:(seen++it.s.labels).Nodup:=by
      rw [List.flatMap_cons,← List.append_assoc] at h2
      exact (List.nodup_append.1 h2).1
     have:=hj.2 this
     cases this
   | some s =>
     obtain rfl:=NA hq
     rw [hq] at hj
     have hn:=hj.1 rfl
     simp only
     cases hl:VQ f it with
     | false =>
       rw [cond_false]
       refine ⟨fun ⟨s,hs⟩=>by (cases hs),fun ⟨h1,_⟩ => ?_⟩
       have:=h1 it List.mem_cons_self
       rw [hl] at this
       cases this
     | true =>
       rw [cond_true,x3t f r _ hn,List.flatMap_cons,List.append_assoc]
       constructor
       ·rintro ⟨h1,h2⟩
        refine ⟨fun x hx => ?_,h2⟩
        rcases List.mem_cons.1 hx with rfl|hx
        ·exact hl
        ·exact h1 x hx
       ·rintro ⟨h1,h2⟩
        exact ⟨fun x hx=>h1 x (List.mem_cons_of_mem _ hx),h2⟩
theorem q8s (f:Pr) : ∀ (its:List Item) (seen s:List Str),UD f its seen = .ok s→s=seen++its.flatMap fun it=>it.s.labels
 | [],seen,s,h=>by rw [UD] at h;cases h;simp
 | it::r,seen,s,h=>by
   rw [UD] at h
   cases hq:VD seen it.s.labels with
   | none=>rw [hq] at h;cases h
   | some s2 =>
     obtain rfl:=NA hq
     rw [hq] at h
     simp only at h
     cases hl:VQ f it with
     | false=>rw [hl] at h;cases h
     | true =>
       rw [hl,cond_true] at h
       rw [q8s f r _ s h,List.flatMap_cons,List.append_assoc]
def q5i (f:Pr):List Str:=(flL f.body).flatMap S.labels++f.fin
def HY (p:Pg) (j:Nat) (f:Pr):Prop:=(∀ it∈itsOf p j f,VQ f it=true)∧(q5i f).Nodup
theorem q8q (p:Pg) (j:Nat) (f:Pr):((itsOf p j f).flatMap fun it=>it.s.labels)=(flL f.body).flatMap S.labels:=by
 unfold itsOf
 rw [← NF (j:Nat) 0 (-1) 0 (QR p.procs j) f.body,List.flatMap_map]
theorem q8k {p:Pg} {j:Nat} {f:Pr} (hj:p.procs[j]? = some f):UH p j=none↔HY p j f:=by
 unfold UH HY q5i
 rw [hj]
 simp only
 have h1:=x3t f (itsOf p j f) [] List.nodup_nil
 rw [List.nil_append,q8q] at h1
 have h0:UD f (itL (j:Nat) 0 (-1) 0 (QR p.procs j) f.body) []=UD f (itsOf p j f) []:=rfl
 rw [h0]
 cases hq:UD f (itsOf p j f) [] with
 | error id =>
   rw [hq] at h1
   refine ⟨fun h=>by (cases h),fun ⟨h2,h3⟩ => ?_⟩
   obtain ⟨s,hs⟩:=h1.2 ⟨h2,(List.nodup_append.1 h3).1⟩
   cases hs
 | ok seen =>
   rw [hq] at h1
   have hs:=q8s f _ _ _ hq
   rw [List.nil_append,q8q] at hs
   obtain ⟨h2,h3⟩:=h1.1 ⟨seen,rfl⟩
   have hJ:=PZ f.fin seen (by rw [hs];exact h3)
   simp only
   rw [← hs]
   cases hq2:VD seen f.fin with
   | none =>
     rw [hq2] at hJ
     refine ⟨fun h=>by (cases h),fun ⟨_,h4⟩ => ?_⟩
     have:=hJ.2 h4
     cases this
   | some s =>
     rw [hq2] at hJ
     exact ⟨fun _=>⟨h2,hJ.1 rfl⟩,fun _=>rfl⟩
theorem z6n {p:Pg} (hs:(QN p).1=0):(DL p).1=0 ↔ ∀ j f,p.procs[j]? = some f→HY p j f:=by
 unfold DL
 rw [if_neg (by omega)]
 cases hf:(List.range p.procs.length).findSome? (UH p) with
 | some a =>
   refine ⟨fun h=>by simp at h,fun h => ?_⟩
   obtain ⟨j,hj,hq⟩:=List.exists_of_findSome?_eq_some hf
   rw [List.mem_range] at hj
   have:=(q8k (List.getElem?_eq_getElem hj)).2 (h j _ (List.getElem?_eq_getElem hj))
   rw [this] at hq
   cases hq
 | none =>
   refine ⟨fun _ j f hj => ?_,fun _=>rfl⟩
   have hlt:j<p.procs.length:=(List.getElem?_eq_some_iff.1 hj).1
   exact (q8k hj).1 (List.findSome?_eq_none_iff.1 hf j (List.mem_range.2 hlt))
def allV (p:Pg) (f:Pr):List Str:=p.globals++x4z f
structure ScopeOK (p:Pg) (f:Pr):Prop where
 nd:(allV p f).Nodup
 kn : ∀ t∈flL f.body,knownB p f (procsN p) t=true
theorem q5a {p:Pg} {f:Pr} (hg:XW p.globals=false):WH p f=none↔ScopeOK p f:=by
 unfold WH
 have h1:(XW (x4z f)||(x4z f).any (fun n=>p.globals.any fun s=>n==s))=false↔(allV p f).Nodup:=by
  unfold allV
  rw [Bool.or_eq_false_iff,ZP,List.nodup_append,List.any_eq_false]
  have hgn:=ZP.1 hg
  constructor
  ·rintro ⟨a,b⟩
   refine ⟨hgn,a,fun x hx y hy e=>b y hy ?_⟩
   rw [List.any_eq_true]
   exact ⟨x,hx,by rw [e];exact beq_self_eq_true _⟩
  ·rintro ⟨_,a,b⟩
   refine ⟨a,fun y hy hh => ?_⟩
   obtain ⟨x,hx,he⟩:=List.any_eq_true.1 hh
   exact b x hx y hy (eq_of_beq he).symm
 cases hc:(XW (x4z f)||(x4z f).any (fun n=>p.globals.any fun s=>n==s)) with
 | true =>
   rw [cond_true]
   refine ⟨fun h=>by (cases h),fun h => ?_⟩
   have:=h1.2 h.nd
   rw [hc] at this
   cases this
 | false =>
   rw [cond_false,Option.map_eq_none_iff,List.find?_eq_none]
   constructor
   ·exact fun h=>⟨h1.1 hc,fun t ht=>by have:=h t ht;simpa using this⟩
   ·intro h t ht
    rw [h.kn t ht]
    decide
theorem z3c {p:Pg} (hm:VX p=true):(QN p).1=0↔ZM p=false ∧ ∀ f∈p.procs,ScopeOK p f:=by
 unfold QN
 rw [hm,cond_true]
 cases hb:ZM p with
 | true=>rw [cond_true];exact ⟨fun h=>by simp at h,fun h=>by cases h.1⟩
 | false =>
   have hg:XW p.globals=false:=by
    unfold ZM at hb
    rw [Bool.or_eq_false_iff] at hb
    exact hb.1
   rw [cond_false]
   cases hf:p.procs.findSome? (WH p) with
   | some a =>
     refine ⟨fun h=>by simp at h,fun h => ?_⟩
     obtain ⟨f,hm2,hq⟩:=List.exists_of_findSome?_eq_some hf
     rw [(q5a hg).2 (h.2 f hm2)] at hq
     cases hq
   | none=>exact ⟨fun _=>⟨rfl,fun f hm2=>(q5a hg).1 (List.findSome?_eq_none_iff.1 hf f hm2)⟩,fun _=>rfl⟩
theorem x3h {p:Pg} (hs:(QN p).1=0):(WI p).1=0 ↔ ∀ t∈YT p,t.kind=4→UU p t=true:=by
 unfold WI
 rw [if_neg (by omega)]
 cases hf:(YT p).find? fun t=>decide (t.kind=4) && !UU p t with
 | some t =>
   have h1:=List.mem_of_find?_eq_some hf
   have h2:=List.find?_some hf
   simp only [Bool.and_eq_true,decide_eq_true_eq,Bool.not_eq_true'] at h2
   refine ⟨fun h=>by simp at h,fun h => ?_⟩
   have:=h t h1 h2.1
   rw [h2.2] at this
   cases this
 | none =>
   refine ⟨fun _ t ht hk => ?_,fun _=>rfl⟩
   have:=List.find?_eq_none.1 hf t ht
   simp only [Bool.and_eq_true,decide_eq_true_eq,Bool.not_eq_true',not_and] at this
   simpa using this hk
theorem z4h {p:Pg} (ha:(WI p).1=0):(KJ p).1=0 ↔ ∀ t∈YT p,t.kind=4→XY t.name (UZ p t.proc) t.args []=true:=by
 unfold KJ
 rw [if_neg (by omega)]
 cases hf:(YT p).find? fun t=>decide (t.kind=4) && !XY t.name (UZ p t.proc) t.args [] with
 | some t =>
   have h1:=List.mem_of_find?_eq_some hf
   have h2:=List.find?_some hf
   simp only [Bool.and_eq_true,decide_eq_true_eq,Bool.not_eq_true'] at h2
   refine ⟨fun h=>by simp at h,fun h => ?_⟩
   have:=h t h1 h2.1
   rw [h2.2] at this
   cases this
 | none =>
   refine ⟨fun _ t ht hk => ?_,fun _=>rfl⟩
   have:=List.find?_eq_none.1 hf t ht
   simp only [Bool.and_eq_true,decide_eq_true_eq,Bool.not_eq_true',not_and] at this
   simpa using this hk
theorem x0t {p:Pg}:ZB p=true↔VX p=true∧(QN p).1=0∧(WI p).1=0∧(DL p).1=0∧(KJ p).1=0:=by
 refine ⟨QE,fun ⟨h1,h2,h3,h4,h5⟩ => ?_⟩
 unfold ZB z6t
 rw [decide_eq_true_eq,if_neg (by rw [h1];decide),if_neg (by omega),if_neg (by omega),if_neg (by omega)]
 exact h5
theorem x2v {p:Pg} (h:VX p=true):(allR p).map RI.s=YT p:=by
 rw [x1t h]
 exact z9r p.procs
open Go.Proofs
theorem w0n {l:List Nat} {a:Nat} (h:a∈l):a≤z0m l:=by
 induction l with
 | nil=>cases h
 | cons b r ih =>
   rw [z0m]
   rcases List.mem_cons.1 h with rfl|h
   ·omega
   ·have:=ih h
    omega
theorem q7n : ∀ (n:Nat) (x:X) (k:Nat),wX x<k→KO n x≤n→BD k x=true→WP n x=true
 | 0,x,k,_,h,_=>by rw [KO] at h;omega
 | n+1,x,0,hk,_,_=>by omega
 | n+1,x,k+1,hk,h,hf=>by
   rw [KO] at h
   rw [BD,Bool.and_eq_true,List.all_eq_true] at hf
   obtain ⟨ho,hkids⟩:=hf
   have hxe:wX x=1+wXs x.kids:=by cases x;rw [wX];rfl
   have hk2 : ∀ y∈x.kids,WP n y=true:=fun y hy=>q7n n y k (by have:=x5i _ _ hy;omega) (by have:=w0n (List.mem_map.2 ⟨y,hy,rfl⟩:KO n y∈x.kids.map (KO n));omega) (hkids y hy)
   unfold KB at ho
   simp only [Bool.and_eq_true,Bool.or_eq_true,decide_eq_true_eq,beq_iff_eq] at ho
   obtain ⟨⟨⟨⟨h1,h2⟩,h3⟩,h4⟩,h5⟩:=ho
   rw [WP,Bool.and_eq_true,decide_eq_true_eq]
   refine ⟨h1.symm,?_⟩
   split
   ·rename_i h6
    rw [h6,decide_eq_false (by decide)] at h4
    simp_all
   ·rename_i h6
    split
    ·rename_i h7
     rw [decide_eq_true h7] at h4
     simp_all
    ·rename_i h7
     rw [decide_eq_false h7] at h4
     simp_all
theorem x5s (x:X):mayXR x=z4b x:=by
 rw [Bool.eq_iff_iff]
 refine ⟨fun h => ?_,z5k⟩
 unfold mayXR at h
 rw [Bool.and_eq_true,decide_eq_true_eq] at h
 exact q7n 20 x _ (Nat.lt_succ_self _) h.1 h.2
theorem w0f (a:Arg):argR a=NI a:=by
 unfold argR NI UT HZ
 rw [x5s]
 cases a.ref<;>rfl
theorem z7r {s:S} (h:OneF s):oneOk s=true:=by
 obtain ⟨f1,f2,f3,f4,f5,f6,f7,f8,f9,f10,f11,f12,f13,f14⟩:=h
 have h11:s.args.all NI=true:=by
  rw [List.all_eq_true] at f11 ⊢
  exact fun a ha=>by rw [← w0f];exact f11 a ha
 rw [x5s] at f4
 have hk:s.kind=1∨s.kind=2∨s.kind=3∨s.kind=4∨s.kind=5∨s.kind=6∨s.kind=7∨s.kind=8∨s.kind=9∨s.kind=10:=by omega
 have hz : ∀ {α:Type} (l:List α),l.length=0→decide (0<l.length)=false:=fun l h=>decide_eq_false (by omega)
 have hnm : ¬(s.kind=1∨s.kind=2∨s.kind=10)→s.kind≠4→(s.name==[])=true:=fun h1 h2=>by
  rcases f8 h1 with h|h
  ·exact h
  ·exact absurd h.1 h2
 have hhas:s.kind≠9→s.has=false:=fun h=>by
  cases hq:s.has with
  | false=>rfl
  | true=>exact absurd (f6 hq) h
 unfold oneOk
 rw [Bool.and_eq_true]
 refine ⟨?_,f1⟩
 have key : ∀ (f:Flds),MX s.kind s.has (s.name==[])=some f→f.has=false→(f.thn=false→s.thn.length=0)→(f.els=false→s.els.length=0)→(s.kind≠4→s.args.length=0)→UT s.name f.name=true→UT s.proc f.proc=true→HZ s.x f.x=true→WF s=true:=fun f hf a1 a2 a3 a4 a5 a6 a7=>by
  rw [q7i hf,a1,a5,a6,a7,h11]
  have e1:(!f.thn&&decide (0<s.thn.length))=false:=by
   cases ht:f.thn with
   | true=>rfl
   | false=>rw [hz _ (a2 ht)];rfl
  have e2:(!f.els&&decide (0<s.els.length))=false:=by
   cases ht:f.els with
   | true=>rfl
   | false=>rw [hz _ (a3 ht)];rfl
  have e3:(!decide (s.kind=4)&&decide (0<s.args.length))=false:=by
   by_cases h4:s.kind=4
   ·rw [decide_eq_true h4];rfl
   ·rw [hz _ (a4 h4)];exact Bool.and_false _
  rw [e1,e2,e3]
  rfl
 have noP:s.kind≠4→UT s.proc false=true:=fun h=>f10 h
 rcases hk with hk|hk|hk|hk|hk|hk|hk|hk|hk|hk
 ·exact key ⟨true,false,true,s.has,false,false⟩ (by rw [hk];rfl) (hhas (by omega)) (fun _=>by omega) (fun _=>by omega) f12 (f7 (by omega)) (noP (by omega)) (f4 (by unfold hasXB;rw [hk];rfl))
 ·exact key ⟨true,false,false,s.has,false,false⟩ (by rw [hk];rfl) (hhas (by omega)) (fun _=>by omega) (fun _=>by omega) f12 (f7 (by omega)) (noP (by omega)) (f5 (by unfold hasXB;rw [hk];rfl))
 ·exact key ⟨false,false,true,s.has,false,false⟩ (by rw [hk];rfl) (hhas (by omega)) (fun _=>by omega) (fun _=>by omega) f12 (hnm (by omega) (by omega)) (noP (by omega)) (f4 (by unfold hasXB;rw [hk];rfl))
 ·refine key ⟨!(s.name==[]),true,false,s.has,false,false⟩ (by rw [hk];rfl) (hhas (by omega)) (fun _=>by omega) (fun _=>by omega) f12 ?_ (f9 hk) (f5 (by unfold hasXB;rw [hk];rfl))
  rcases f8 (by omega) with h|h
  ·rw [h];exact h
  ·rw [q1u h.2];exact h.2
 ·exact key ⟨false,false,true,s.has,true,true⟩ (by rw [hk];rfl) (hhas (by omega)) (fun h=>by cases h) (fun h=>by cases h) f12 (hnm (by omega) (by omega)) (noP (by omega)) (f4 (by unfold hasXB;rw [hk];rfl))
 ·exact key ⟨false,false,true,s.has,true,false⟩ (by rw [hk];rfl) (hhas (by omega)) (fun h=>by cases h) (fun _=>by omega) f12 (hnm (by omega) (by omega)) (noP (by omega)) (f4 (by unfold hasXB;rw [hk];rfl))
 ·exact key ⟨false,false,false,s.has,false,false⟩ (by rw [hk];rfl) (hhas (by omega)) (fun _=>by omega) (fun _=>by omega) f12 (hnm (by omega) (by omega)) (noP (by omega)) (f5 (by unfold hasXB;rw [hk];rfl))
 ·exact key ⟨false,false,false,s.has,false,false⟩ (by rw [hk];rfl) (hhas (by omega)) (fun _=>by omega) (fun _=>by omega) f12 (hnm (by omega) (by omega)) (noP (by omega)) (f5 (by unfold hasXB;rw [hk];rfl))
 ·refine key ⟨false,false,s.has,false,false,false⟩ (by rw [hk];rfl) rfl (fun _=>by omega) (fun _=>by omega) f12 (hnm (by omega) (by omega)) (noP (by omega)) ?_
  cases hh:s.has with
  | true=>exact f4 (by unfold hasXB;rw [hk,hh];rfl)
  | false=>exact f5 (by unfold hasXB;rw [hk,hh];rfl)
 ·exact key ⟨true,false,false,s.has,false,false⟩ (by rw [hk];rfl) (hhas (by omega)) (fun _=>by omega) (fun _=>by omega) f12 (f7 (by omega)) (noP (by omega)) (f5 (by unfold hasXB;rw [hk];rfl))
theorem z6u : ∀ (k:Nat) (l:List S) (i:Int) (e:Bool) (out:List RI),(flF k i e l out).length≤200→(∀ x∈flF k i e l out,x.deep≤12)→flF k i e l out=out++fuL (13-(k:Int)) i e l:=by
 intro k
 induction k with
 | zero =>
   intro l i e out h1 h2
   cases l with
   | nil=>rw [fuL,List.append_nil];rfl
   | cons s r =>
     exfalso
     have e0:flF 0 i e (s::r) out=flF 0 i e r (if out.length≤200 then out++[⟨s,13,i,e⟩] else out):=rfl
     rw [e0] at h1 h2
     have hl:=(FQ 0 i e r (if out.length≤200 then out++[⟨s,13,i,e⟩] else out)).1
     by_cases ho:out.length≤200
     ·rw [if_pos ho] at h1 h2 hl
      have hpre : ∀ (r:List S) (o:List RI) (x:RI),x∈o→x∈flF 0 i e r o:=fun r=>by
       induction r with
       | nil=>exact fun o x hx=>hx
       | cons a r ih =>
         intro o x hx
         show x∈flF 0 i e r (if o.length≤200 then o++[⟨a,13,i,e⟩] else o)
         refine ih _ _ ?_
         split
         ·exact List.mem_append.2 (.inl hx)
         ·exact hx
      have:=h2 _ (hpre r _ ⟨s,13,i,e⟩ (List.mem_append.2 (.inr (List.mem_singleton.2 rfl))))
      simp at this
     ·rw [if_neg ho] at h1 hl
      omega
 | succ k ih =>
   intro l
   induction l with
   | nil=>intro i e out h1 h2;rw [fuL,List.append_nil];rfl
   | cons s r ihr =>
     intro i e out h1 h2
     have e0:flF (k+1) i e (s::r) out=flF (k+1) i e r (if out.length≤200 then flF k s.id true s.els (flF k s.id false s.thn (out++[⟨s,13-((k+1:Nat):Int),i,e⟩])) else out):=rfl
     rw [e0] at h1 h2 ⊢
     have hl:=(FQ (k+1) i e r (if out.length≤200 then flF k s.id true s.els (flF k s.id false s.thn (out++[⟨s,13-((k+1:Nat):Int),i,e⟩])) else out)).1
     have ho:out.length≤200:=by
      refine Classical.byContradiction fun hq => ?_
      rw [if_neg hq] at hl h1
      omega
     rw [if_pos ho] at h1 h2 hl ⊢
     have h3:=ihr i e _ h1 h2
     rw [h3] at h2
     have h2' : ∀ x∈flF k s.id true s.els (flF k s.id false s.thn (out++[⟨s,13-((k+1:Nat):Int),i,e⟩])),x.deep≤12:=fun x hx=>h2 x (List.mem_append.2 (.inl hx))
     have h4:=ih s.els s.id true _ (by omega) h2'
     rw [h4] at h2'
     have h2'' : ∀ x∈flF k s.id false s.thn (out++[⟨s,13-((k+1:Nat):Int),i,e⟩]),x.deep≤12:=fun x hx=>h2' x (List.mem_append.2 (.inl hx))
     have hl2:=(FQ k s.id true s.els (flF k s.id false s.thn (out++[⟨s,13-((k+1:Nat):Int),i,e⟩]))).1
     have h5:=ih s.thn s.id false _ (by omega) h2''
     have ed:(13:Int)-((k+1:Nat):Int)+1=13-(k:Int):=by omega
     rw [h3,h4,h5,fuL,q8o,ed]
     simp
mutual
theorem w0t (d i:Int) (e:Bool) (seen:Nat) : ∀ (t:S),(fuS d i e t).map (fun x=>x.s.id)=JC seen (ZU t)→(∀ x∈fuS d i e t,x.deep≤12∧oneOk x.s=true)→seen+ZU t≤200→q3h d seen t=some ((seen+ZU t:Nat):Int)
 | .mk id kind labels name proc x has args thn els,h1,h2,h3=>by
   have hc:ZU (.mk id kind labels name proc x has args thn els)=1+QY thn+QY els:=WZ _
   rw [fuS] at h1 h2
   rw [hc] at h1 h3 ⊢
   have hsp:JC seen (1+QY thn+QY els)=((seen:Int)+1)::(JC (seen+1) (QY thn)++JC (seen+1+QY thn) (QY els)):=by
    rw [← GH]
    unfold JC
    rw [show 1+QY thn+QY els=(QY thn+QY els)+1 by omega,List.range'_succ,List.map_cons]
    congr 1
   rw [hsp,List.map_cons,List.map_append] at h1
   have hid:id=(seen:Int)+1:=(List.cons.inj h1).1
   have h1':=(List.cons.inj h1).2
   have hlen:((fuL (d+1) id false thn).map fun x=>x.s.id).length=(JC (seen+1) (QY thn)).length:=by
    rw [List.length_map,WB];unfold JC;simp
   obtain ⟨ha,hb⟩:=List.append_inj h1' hlen
   have hok:=h2 _ List.mem_cons_self
   have r1:=q9r (d+1) id false (seen+1) thn ha (fun x hx=>h2 x (List.mem_cons_of_mem _ (List.mem_append.2 (.inl hx)))) (by omega)
   have r2:=q9r (d+1) id true (seen+1+QY thn) els hb (fun x hx=>h2 x (List.mem_cons_of_mem _ (List.mem_append.2 (.inr hx)))) (by omega)
   have hoo:=hok.2
   unfold oneOk at hoo
   rw [Bool.and_eq_true] at hoo
   rw [q3h,if_neg (by omega),if_neg (by omega),show namesB labels=true from hoo.2,cond_true,show WF (.mk id kind labels name proc x has args thn els)=true from hoo.1,cond_true]
   have e1:(seen:Int)+1=((seen+1:Nat):Int):=by omega
   rw [e1,r1]
   simp only
   rw [r2]
   congr 1
   omega
theorem q9r (d i:Int) (e:Bool) (seen:Nat) : ∀ (l:List S),(fuL d i e l).map (fun x=>x.s.id)=JC seen (QY l)→(∀ x∈fuL d i e l,x.deep≤12∧oneOk x.s=true)→seen+QY l≤200→ZV d seen l=some ((seen+QY l:Nat):Int)
 | [],_,_,_=>by rw [ZV,QY];rfl
 | t::r,h1,h2,h3=>by
   rw [fuL] at h1 h2
   have hc:QY (t::r)=ZU t+QY r:=by rw [QY]
   rw [hc] at h1 h3 ⊢
   rw [GH,List.map_append] at h1
   have hlen:((fuS d i e t).map fun x=>x.s.id).length=(JC seen (ZU t)).length:=by
    have:=WB d i e [t]
    rw [fuL,fuL,List.append_nil,QY,QY] at this
    rw [List.length_map,this];unfold JC;simp
   obtain ⟨ha,hb⟩:=List.append_inj h1 hlen
   have hd:d≤12:=by
    have:(⟨t,d,i,e⟩:RI)∈fuS d i e t++fuL d i e r:=List.mem_append.2 (.inl (by rw [q8o];exact List.mem_cons_self))
    exact (h2 _ this).1
   have r1:=w0t d i e seen t ha (fun x hx=>h2 x (List.mem_append.2 (.inl hx))) (by omega)
   have r2:=q9r d i e (seen+ZU t) r hb (fun x hx=>h2 x (List.mem_append.2 (.inr hx))) (by omega)
   rw [ZV,if_neg (by omega),r1]
   simp only
   rw [r2]
   congr 1
   omega
end
theorem x4u : ∀ (l:List Pr) (seen:Nat),(∀ f∈l,JO f=true)→((l.flatMap flatU).map fun x=>x.s.id)=JC seen (cntP l)→(∀ x∈l.flatMap flatU,x.deep≤12∧oneOk x.s=true)→seen+cntP l≤200→(XN seen l).isSome=true
 | [],_,_,_,_,_=>rfl
 | f::r,seen,h1,h2,h3,h4=>by
   rw [List.flatMap_cons] at h2 h3
   have hc:cntP (f::r)=QY f.body+cntP r:=by rw [cntP]
   rw [hc] at h2 h4
   rw [GH,List.map_append] at h2
   have hlen:((flatU f).map fun x=>x.s.id).length=(JC seen (QY f.body)).length:=by
    unfold flatU
    rw [List.length_map,WB];unfold JC;simp
   obtain ⟨ha,hb⟩:=List.append_inj h2 hlen
   have r1:=q9r 1 0 false seen f.body ha (fun x hx=>h3 x (List.mem_append.2 (.inl hx))) (by omega)
   have r2:=x4u r (seen+QY f.body) (fun g hg=>h1 g (List.mem_cons_of_mem _ hg)) hb (fun x hx=>h3 x (List.mem_append.2 (.inr hx))) (by omega)
   rw [XN,h1 f List.mem_cons_self,cond_true,r1]
   exact r2
theorem z1x : ∀ (l:List Pr) (out:List RI),(FJ l out).length≤200→(∀ x∈FJ l out,x.deep≤12)→FJ l out=out++l.flatMap flatU:=by
 intro l
 induction l with
 | nil=>intro out _ _;show out=_;simp
 | cons f r ih =>
   intro out h1 h2
   have mono : ∀ (r:List Pr) (o:List RI),o.length≤(FJ r o).length:=fun r=>by
    induction r with
    | nil=>exact fun o=>Nat.le_refl _
    | cons g r ih =>
      intro o
      show _≤(FJ r (if o.length≤200 then o++WS g else o)).length
      have:=ih (if o.length≤200 then o++WS g else o)
      split at this
      ·rw [if_pos (by assumption)]
       simp only [List.length_append] at this
       omega
      ·rw [if_neg (by assumption)]
       exact this
   have e0:FJ (f::r) out=FJ r (if out.length≤200 then out++WS f else out):=rfl
   rw [e0] at h1 h2 ⊢
   have hm:=mono r (if out.length≤200 then out++WS f else out)
   have ho:out.length≤200:=by
    refine Classical.byContradiction fun hq => ?_
    rw [if_neg hq] at hm h1
    omega
   rw [if_pos ho] at h1 h2 hm ⊢
   have h3:=ih _ h1 h2
   rw [h3] at h2 h1 ⊢
   simp only [List.length_append] at h1
   have h4:=z6u 12 f.body 0 false [] (by show (WS f).length≤200;omega) (fun x hx=>h2 x (List.mem_append.2 (.inl (List.mem_append.2 (.inr hx)))))
   have h5:WS f=flatU f:=by simpa [WS,flatU] using h4
   rw [h5]
   simp
theorem w2m {p:Pg} (h1:p.globals.length≤16) (h2:p.procs.length≤16) (h3:namesB p.globals=true) (h4 : ∀ f∈p.procs,JO f=true) (h5:(allR p).length≤200) (h6 : ∀ (k:Nat) (x:RI),(allR p)[k]? = some x→x.s.id=(k:Int)+1∧x.deep≤12∧oneOk x.s=true):VX p=true:=by
 have hmem : ∀ x∈allR p,x.deep≤12∧oneOk x.s=true:=fun x hx=>by
  obtain ⟨k,hk,rfl⟩:=List.mem_iff_getElem.1 hx
  exact (h6 k _ (List.getElem?_eq_getElem hk)).2
 have he:allR p=p.procs.flatMap flatU:=by
  have:=z1x p.procs [] h5 (fun x hx=>(hmem x hx).1)
  simpa [allR] using this
 have hids:(p.procs.flatMap flatU).map (fun x=>x.s.id)=JC 0 (cntP p.procs):=by
  refine List.ext_getElem? fun k => ?_
  rw [List.getElem?_map,← he]
  rcases Nat.lt_or_ge k (allR p).length with hk|hk
  ·have hk2:k<cntP p.procs:=by rw [← MI,← he];exact hk
   rw [List.getElem?_eq_getElem hk]
   have:=(h6 k _ (List.getElem?_eq_getElem hk)).1
   unfold JC
   rw [List.getElem?_map,List.getElem?_range' hk2]
   simp only [Option.map_some,this]
   congr 1
   omega
  ·have hk2:cntP p.procs≤k:=by rw [← MI,← he];exact hk
   rw [List.getElem?_eq_none hk,List.getElem?_eq_none (by unfold JC;simpa using hk2)]
   rfl
 have hlen:0+cntP p.procs≤200:=by rw [← MI,← he];omega
 have:=x4u p.procs 0 h4 hids (fun x hx=>hmem x (by rw [he];exact hx)) hlen
 unfold VX
 rw [decide_eq_true h1,decide_eq_true h2,h3]
 exact this
open Go.Proofs
def spo (out:List Str) (s:Str):List Str:=if (out.any fun y=>s==y)=false then out++[s] else out
theorem z7k (x:X) (out:List Str):q8g x out=GU x.kids (if x.op=2 then spo out x.name else out):=by
 rw [x1x]
 unfold spo
 by_cases h:x.op=2
 ·rw [if_pos h]
  by_cases h2:(out.any fun y=>x.name==y)=false
  ·rw [if_pos ⟨h,h2⟩,if_pos h2]
  ·rw [if_neg (fun hh=>h2 hh.2),if_neg h2]
 ·rw [if_neg h,if_neg (fun hh=>h hh.1)]
theorem NW (out:List Str) (s:Str) (ho:out.length≤1073741824):SpecH Tryz.prog 253 [.hd 2000 0 out.length,.p (.str s)] (x1b 9 out) (fun r H=>r = .hd 2000 0 (spo out s).length∧H=x1b 9 (spo out s)):=by
 refine SpecH.body HS QQ Tryz.func253 rfl Tryz.call253 (by show 2≤_;decide) ?_
 conv=>whnf
 repeat' (intro (_:_≤9223372036854775807);conv=>whnf)
 have hl:(out.map AV.str).length=out.length:=List.length_map _
 refine LoopK.inv QQ (fun j:Nat=>⟨[(0,.hd 2000 0 out.length),(1,.p (.str s)),(7,.hd 2000 0 out.length),(8,.p (.int .i64 out.length)),(9,.p (.int .i64 j))],x1b 9 out⟩) (fun j=>j≤out.length∧(out.drop j).any (fun y=>s==y)=out.any fun y=>s==y) (fun j=>out.length-j) 0 (Le.of_eq rfl) ⟨Nat.zero_le _,rfl⟩ ?_
 rintro j ⟨h2,h3⟩
 rcases Nat.lt_or_ge j out.length with hj|hj
 ·have g:(out.map AV.str)[j]? = some (.str out[j]):=by simp [hj]
  conv=>whnf
  repeat' (first|((first|refine And.intro rfl ?_|refine Wr.i64 (by omega) (by omega) ?_|refine IdxL.mk j rfl (by omega) ?_|refine LdOwn.mk j 0 _ (by omega) g ?_);conv=>whnf)|(refine Br.dec (fun _=>?_) (fun _=>?_)<;>first|(exfalso;omega)|conv=>whnf)|(refine Br.b (fun _=>?_) (fun _=>?_)<;>conv=>whnf))
  ·have he:(s==out[j])=true:=by rw [Bool.beq_comm];assumption
   have e:=q0z (p:=fun y=>s==y) hj he
   rw [h3] at e
   have hs:spo out s=out:=by unfold spo;rw [if_neg (by rw [e];decide)]
   exact ⟨_,.refl _,by rw [hs];exact ⟨rfl,rfl⟩⟩
  ·have he:(s==out[j])=false:=by rw [Bool.beq_comm];assumption
   exact ⟨j+1,⟨by omega,by rw [← h3,q2y (p:=fun y=>s==y) hj he]⟩,by omega,Le.of_eq rfl⟩
 ·have e:=FB (p:=fun y=>s==y) (l:=out) hj
  rw [h3] at e
  have hs:spo out s=out++[s]:=by unfold spo;rw [if_pos e]
  rw [hs]
  conv=>whnf
  repeat' (first|((first|refine And.intro rfl ?_|(refine And.intro ⟨by decide,by decide⟩ ?_)|refine BsK.pure (fun x hx=>by rcases List.mem_singleton.1 hx with rfl;rfl) rfl ?_|refine AppK.str1 (by simp) (by simp;omega) ?_);conv=>whnf)|(refine Br.dec (fun _=>?_) (fun _=>?_)<;>first|(exfalso;omega)|conv=>whnf))
  exact ⟨_,.refl _,by simp only [x1b,List.length_append,List.map_append];exact ⟨rfl,rfl⟩⟩
theorem q1k : ∀ (n:Nat) (_:n≤20) (x:X) (_:WP n x=true) (out:List Str) (_:out.length+2 ^ n≤1073741824),
  SpecH Tryz.prog 179 [.p (.agg x.cells),.hd 2000 0 out.length] (x1b 9 out) (fun r H=>r = .hd 2000 0 (q8g x out).length∧H=x1b 9 (q8g x out)):=by
 intro n
 induction n with
 | zero=>intro _ x h;rw [WP] at h;cases h
 | succ n ih =>
   intro hn x hx out ho
   have hp:2 ^ (n+1)=2*2 ^ n:=by rw [Nat.pow_succ];omega
   have hpos:0<2 ^ n:=Nat.pow_pos (by decide)
   obtain ⟨hk1,hk2,hk3⟩:=q1j hx
   have hxl:=X.avs_len x.kids
   have hmul : ∀ j,j<x.kids.length→(x.kids.length-j)*2 ^ n=(x.kids.length-(j+1))*2 ^ n+2 ^ n:=fun j hj=>by
    rw [show x.kids.length-j=(x.kids.length-(j+1))+1 by omega,Nat.add_mul,Nat.one_mul]
   have hmul0:x.kids.length*2 ^ n≤2*2 ^ n:=Nat.mul_le_mul_right _ hk1
   have hspl:(spo out x.name).length≤out.length+1:=by unfold spo;split<;>simp
   have hg:=z7k x out
   have hz:x.op=2→x.kids.length*2 ^ n=0:=fun h=>by rw [hk2 h,Nat.zero_mul]
   rw [hg]
   have hS:=NW out x.name (by omega)
   have hlen:(if x.op=2 then spo out x.name else out).length+x.kids.length*2 ^ n≤1073741824:=by
    split
    ·rename_i h;have:=hz h;omega
    ·omega
   clear hg
   refine SpecH.body PL QQ Tryz.func179 rfl Tryz.call179 (by show 2≤_;decide) ?_
   conv=>whnf
   generalize spo out x.name=o2 at *
   repeat' (first|(intro (_:_≤9223372036854775807);conv=>whnf)|(refine Br.dec (fun _=>?_) (fun _=>?_)<;>first|(exfalso;omega)|conv=>whnf)|(refine CallK.heap [(2000,2000)] 0 (by repeat' (first|exact ArgsH.nil|refine ArgsH.cons ?_ ?_|exact LSub.refl _|exact LSub.p Sub.nils|exact LSub.p (Sub.tt rfl)|exact LSub.p (Sub.ff rfl)|exact LSub.p (Sub.int (by omega)))) (by refine BlksH.cons (j:=2000) rfl rfl ?_ ?_;exact CSub.refl _;exact BlksH.nil) hS rfl rfl ?_;rintro l' H' ⟨rfl,rfl⟩;conv=>whnf))
   all_goals
    first
    | rw [if_pos (by assumption)] at hlen ⊢
    | rw [if_neg (by assumption)] at hlen ⊢
   rotate_left 1
   generalize out=o2 at *
   all_goals
    refine LoopK.inv QQ (fun i:Nat×List Str=>⟨[(1,.hd 2000 0 i.2.length),(2,.p (.ip x.cells)),(15,.p (.int .i64 (X.avs x.kids).length)),(16,.p (.int .i64 i.1))],x1b 9 i.2⟩) (fun i=>i.1≤x.kids.length∧GU (x.kids.drop i.1) i.2=GU x.kids o2∧i.2.length+(x.kids.length-i.1)*2 ^ n≤1073741824) (fun i=>x.kids.length-i.1) (0,o2) (Le.of_eq rfl) ⟨Nat.zero_le _,rfl,by simpa using hlen⟩ ?_
    rintro ⟨j,acc⟩ ⟨h2,h3,h4⟩
    simp only at h2 h3 h4 ⊢
    rcases Nat.lt_or_ge j x.kids.length with hj|hj
    ·have hm:=hmul j hj
     have hg:=x5k n x.kids[j] acc (hk3 _ (List.getElem_mem hj))
     have hI:=ih (by omega) x.kids[j] (hk3 _ (List.getElem_mem hj)) acc (by omega)
     conv=>whnf
     repeat' (first|((first|refine IdxK.xs (by omega) ?_|refine Wr.i64 (by omega) (by omega) ?_);conv=>whnf)|(refine Br.dec (fun _=>?_) (fun _=>?_)<;>first|(exfalso;omega)|conv=>whnf)|(refine CallK.heap [(2000,2000)] 0 (by repeat' (first|exact ArgsH.nil|refine ArgsH.cons ?_ ?_|exact LSub.refl _|exact LSub.p Sub.nils|exact LSub.p (Sub.tt rfl)|exact LSub.p (Sub.ff rfl)|exact LSub.p (Sub.int (by omega)))) (by refine BlksH.cons (j:=2000) rfl rfl ?_ ?_;exact CSub.refl _;exact BlksH.nil) hI rfl rfl ?_;rintro l' H' ⟨rfl,rfl⟩;conv=>whnf))
     all_goals exact ⟨(j+1,q8g x.kids[j] acc),⟨by simp only;omega,by simp only;rw [← h3,q8x hj],by simp only;omega⟩,by simp only;omega,Le.of_eq rfl⟩
    ·rw [x4i (by omega)] at h3
     conv=>whnf
     repeat' (refine Br.dec (fun _=>?_) (fun _=>?_)<;>first|(exfalso;omega)|conv=>whnf)
     exact ⟨_,.refl _,by rw [h3];exact ⟨rfl,rfl⟩⟩
theorem GM (x:X):SpecP Tryz.prog 178 [.agg x.cells] (fun r=>r = .bool (z4b x)):=by
 refine SpecP.body VC QQ Tryz.func178 rfl Tryz.call178 (by show 1≤_;decide) ?_
 conv=>whnf
 repeat' (first|((first|(refine CallK.pure (KR 20 (by omega) x) (.cons (Sub.refl _) (.cons (Sub.refl _) .nil)) ?_;rintro _ rfl)|(refine CallK.pure (KL (wX x+1) x (by omega)) (.cons (Sub.refl _) .nil) ?_;rintro _ rfl));conv=>whnf)|(refine Br.dec (fun _=>?_) (fun _=>?_)<;>first|(exfalso;omega)|conv=>whnf))
 all_goals rw [← x5s]
 all_goals first
  | exact RetK.bool (by unfold mayXR;rw [decide_eq_true (by omega)];rfl)
  | exact RetK.ff (by unfold mayXR;rw [decide_eq_false (by omega)];rfl)
theorem JJ (x:X):SpecP Tryz.prog 121 [.agg x.cells] (fun r=>r=QH (WX x)):=by
 refine SpecP.body DA QQ Tryz.func121 rfl Tryz.call121 (by show 1≤_;decide) ?_
 conv=>whnf
 have hM:=GM x
 unfold WX
 cases hm:z4b x with
 | false =>
   rw [hm] at hM
   repeat' (first|(refine CallK.pure hM (.cons (Sub.refl _) .nil) ?_;rintro _ rfl;conv=>whnf)|(refine Br.n (fun _=>?_) (fun _=>?_)<;>conv=>whnf))
   all_goals first
    | exact ⟨_,.p Sub.nils,rfl⟩
    | (exfalso;simp_all;done)
 | true =>
   rw [hm] at hM
   repeat' (first|(refine CallK.pure hM (.cons (Sub.refl _) .nil) ?_;rintro _ rfl;conv=>whnf)|(refine Br.n (fun _=>?_) (fun _=>?_)<;>conv=>whnf))
   all_goals first
    | (exfalso;simp_all;done)
    | (refine CallK.nil 5 9 1 rfl (.cons rfl (.row .nil)) ?_
       refine CallK.heap [(2000,5)] 0 (by repeat' (first|exact ArgsH.nil|refine ArgsH.cons ?_ ?_|exact LSub.refl _|exact LSub.p Sub.nils|exact LSub.p (Sub.tt rfl)|exact LSub.p (Sub.ff rfl)|exact LSub.p (Sub.int (by omega)))) (by refine BlksH.cons (j:=5) rfl rfl ?_ ?_;exact CSub.refl _;exact BlksH.nil) (q1k 20 (by omega) x (by assumption) [] (by simp)) rfl rfl ?_
       rintro l' H' ⟨rfl,rfl⟩
       conv=>whnf
       exact ⟨_,.hd rfl (by simp),rfl⟩)
open Go.Proofs
theorem q5d {s:S} (h:oneOk s=true→False):oneOk s=false:=by
 cases hq:oneOk s with
 | false=>rfl
 | true=>exact (h hq).elim
theorem NZ (s:S):SpecP Tryz.prog 177 [.agg s.cells] (fun r=>r = .bool (oneOk s)):=by
 refine SpecP.body MB QQ Tryz.func177 rfl Tryz.call177 (by show 1≤_;decide) ?_
 conv=>whnf
 have hal:(s.args.map fun a=>AV.agg a.cells).length=s.args.length:=List.length_map _
 have htl:((S.avs s.thn).length:Int)=s.thn.length:=by rw [S.avs_len]
 have hel:((S.avs s.els).length:Int)=s.els.length:=by rw [S.avs_len]
 repeat' (first|((first|intro (_:_≤9223372036854775807)|(refine CallK.pure (XP _) (by repeat' (first|exact ArgP.nil|refine ArgP.cons ?_ ?_|exact Sub.refl _|exact Sub.tt rfl|exact Sub.ff rfl)) ?_;rintro _ rfl)|(refine CallK.pure (VM _) (by repeat' (first|exact ArgP.nil|refine ArgP.cons ?_ ?_|exact Sub.refl _|exact Sub.tt rfl|exact Sub.ff rfl)) ?_;rintro _ rfl)|(refine CallK.pure (GV _) (by repeat' (first|exact ArgP.nil|refine ArgP.cons ?_ ?_|exact Sub.refl _|exact Sub.tt rfl|exact Sub.ff rfl)) ?_;rintro _ rfl)|(refine CallK.pure (UO _) (by repeat' (first|exact ArgP.nil|refine ArgP.cons ?_ ?_|exact Sub.refl _|exact Sub.tt rfl|exact Sub.ff rfl)) ?_;rintro _ rfl)|refine ValO.boolNeq QQ rfl rfl rfl rfl rfl ?_);conv=>whnf)|(refine Br.dec (fun _=>?_) (fun _=>?_)<;>first|(exfalso;omega)|conv=>whnf)|(refine Br.dec2 (fun _=>?_) (fun _=>?_)<;>first|(exfalso;omega)|conv=>whnf)|(refine Br.n (fun _=>?_) (fun _=>?_)<;>conv=>whnf)|(refine Br.b (fun _=>?_) (fun _=>?_)<;>conv=>whnf))
 all_goals simp only [show (ByteArray.mk #[]).data.toList=[] from rfl] at *
 all_goals first
  | (refine RetK.ff (q5d fun h => ?_)
     obtain ⟨f1,f2,f3,f4,f5,f6,f7,f8,f9,f10,f11,f12,f13,f14⟩:=UJ h
     first
      | omega
      | (exfalso;simp_all [hasXB];done)
      | (exfalso;simp_all [hasXB];omega)
      | (rename_i hq
         by_cases hk:s.kind=4
         ·have h15:=q1u (f9 hk)
          simp_all
          done
         ·have h15:=f10 hk
          simp_all
          done))
  | skip
 all_goals
  have G:s.args.all argR=true→(s.thn.length=0∨s.kind=5∨s.kind=6)→(s.els.length=0∨s.kind=5)→oneOk s=true:=fun g1 g2 g3=>by
   refine z7r ⟨by assumption,by omega,by omega,fun q => ?_,fun q => ?_,fun q => ?_,fun q => ?_,fun q => ?_,fun q => ?_,fun q => ?_,g1,fun q => ?_,g2,g3⟩
   all_goals clear hal htl hel g1 g2 g3
   all_goals first
    | omega
    | assumption
    | (simp_all [hasXB];done)
    | (simp_all [hasXB];omega)
    | (have h4:(s.kind==4) = !(s.proc==[]):=by assumption
       have h5:(s.kind==4)=false:=beq_eq_false_iff_ne.2 (by assumption)
       rw [h5] at h4
       revert h4
       cases (s.proc==[])<;>simp
       done)
    | trace_state
  refine LoopK.inv QQ (fun j:Nat=>⟨[(1,.p (.ip s.cells)),(143,.p (.sl (s.args.map fun a => .agg a.cells))),(144,.p (.int .i64 (s.args.map fun a=>AV.agg a.cells).length)),(145,.p (.int .i64 j))],[]⟩) (fun j=>j≤s.args.length∧(s.args.drop j).all argR=s.args.all argR) (fun j=>s.args.length-j) 0 (Le.of_eq rfl) ⟨Nat.zero_le _,rfl⟩ ?_
  rintro j ⟨h2,h3⟩
  rcases Nat.lt_or_ge j s.args.length with hj|hj
  ·conv=>whnf
   repeat' (first|((first|(refine CallK.pure (q3z _) (by repeat' (first|exact ArgP.nil|refine ArgP.cons ?_ ?_|exact Sub.refl _|exact Sub.tt rfl|exact Sub.ff rfl)) ?_;rintro _ rfl)|refine And.intro rfl ?_|refine IdxK.map (by omega) (fun _=>rfl) ?_|refine Wr.i64 (by omega) (by omega) ?_);conv=>whnf)|(refine Br.dec (fun _=>?_) (fun _=>?_)<;>first|(exfalso;omega)|conv=>whnf)|(refine Br.n (fun _=>?_) (fun _=>?_)<;>conv=>whnf))
   all_goals first
    | exact ⟨j+1,⟨hj,by rw [JA hj (by assumption)];exact h3⟩,by omega,Le.of_eq rfl⟩
    | (refine RetK.ff (q5d fun h => ?_)
       have h4:=List.all_eq_true.1 (UJ h).args _ (List.getElem_mem hj)
       simp_all)
  ·rw [JE hj] at h3
   have G:=G h3.symm
   conv=>whnf
   repeat' (first|(intro (_:_≤9223372036854775807);conv=>whnf)|(refine Br.dec (fun _=>?_) (fun _=>?_)<;>first|(exfalso;omega)|conv=>whnf))
   all_goals first
    | exact RetK.tt (G (by omega) (by omega))
    | (refine RetK.ff (q5d fun h => ?_)
       have F1:=(UJ h).thn
       have F2:=(UJ h).els
       omega)
    | (refine RetK.bool ?_
       first
        | rw [Bool.eq_iff_iff,beq_iff_eq]
        | rw [Bool.eq_iff_iff,decide_eq_true_eq]
       exact ⟨fun q=>G (by omega) (by omega),fun h=>by have F1:=(UJ h).thn;have F2:=(UJ h).els;omega⟩)
    | trace_state
open Go.Proofs
theorem FY {p:Pg} (h:VX p=true→False):VX p=false:=by
 cases hq:VX p with
 | false=>rfl
 | true=>exact (h hq).elim
theorem YH (p:Pg):SpecP Tryz.prog 120 [.agg p.cells] (fun r=>r = .bool (VX p)):=by
 refine SpecP.body MU QQ Tryz.func120 rfl Tryz.call120 (by show 1≤_;decide) ?_
 conv=>whnf
 have hgl:(p.globals.map AV.str).length=p.globals.length:=List.length_map _
 have hpl:(p.procs.map fun f=>AV.agg f.cells).length=p.procs.length:=List.length_map _
 repeat' (first|((first|intro (_:_≤9223372036854775807)|(refine CallK.pure (VM _) (by repeat' (first|exact ArgP.nil|refine ArgP.cons ?_ ?_|exact Sub.refl _|exact Sub.tt rfl|exact Sub.ff rfl)) ?_;rintro _ rfl));conv=>whnf)|(refine Br.dec (fun _=>?_) (fun _=>?_)<;>first|(exfalso;omega)|conv=>whnf)|(refine Br.n (fun _=>?_) (fun _=>?_)<;>conv=>whnf))
 all_goals first
  | (refine RetK.ff (FY fun h => ?_)
     have F:=FU h
     have F1:=F.gl
     have F2:=F.pl
     have F3:=F.gn
     first
      | omega
      | (simp_all;done))
  | skip
 have G1:p.globals.length≤16:=by omega
 have G2:p.procs.length≤16:=by omega
 have G3:namesB p.globals=true:=by assumption
 refine LoopK.inv QQ (fun j:Nat=>⟨[(1,.p (.ip p.cells)),(26,.p (.sl (p.procs.map fun f => .agg f.cells))),(27,.p (.int .i64 (p.procs.map fun f=>AV.agg f.cells).length)),(28,.p (.int .i64 j))],[]⟩) (fun j=>j≤p.procs.length ∧ ∀ m (hm:m<p.procs.length),m<j→JO p.procs[m]=true) (fun j=>p.procs.length-j) 0 (Le.of_eq rfl) ⟨Nat.zero_le _,fun m hm h=>absurd h (Nat.not_lt_zero _)⟩ ?_
 rintro j ⟨h2,G4⟩
 rcases Nat.lt_or_ge j p.procs.length with hj|hj
 ·have hpm:(p.procs[j].params.map fun a=>AV.agg a.cells).length=p.procs[j].params.length:=List.length_map _
  have hvs:(p.procs[j].vars.map AV.str).length=p.procs[j].vars.length:=List.length_map _
  conv=>whnf
  repeat' (first|((first|intro (_:_≤9223372036854775807)|(refine CallK.pure (VM _) (by repeat' (first|exact ArgP.nil|refine ArgP.cons ?_ ?_|exact Sub.refl _|exact Sub.tt rfl|exact Sub.ff rfl)) ?_;rintro _ rfl)|(refine CallK.pure (XP _) (by repeat' (first|exact ArgP.nil|refine ArgP.cons ?_ ?_|exact Sub.refl _|exact Sub.tt rfl|exact Sub.ff rfl)) ?_;rintro _ rfl)|refine And.intro rfl ?_|refine IdxK.map (by omega) (fun _=>rfl) ?_);conv=>whnf)|(refine Br.dec (fun _=>?_) (fun _=>?_)<;>first|(exfalso;omega)|conv=>whnf)|(refine Br.n (fun _=>?_) (fun _=>?_)<;>conv=>whnf))
  all_goals first
   | (refine RetK.ff (FY fun h => ?_)
      obtain ⟨F1,F2,F3,F4,F5,F6⟩:=(FU h).pr _ (List.getElem_mem hj)
      first
       | omega
       | (simp_all;done))
   | skip
  have G5:(p.procs[j].params.all fun a=>isName a.name)=true→JO p.procs[j]=true:=fun g=>FG.2 ⟨by omega,by omega,by assumption,by assumption,by assumption,g⟩
  refine LoopK.inv QQ (fun k:Nat=>⟨[(1,.p (.ip p.cells)),(26,.p (.sl (p.procs.map fun f => .agg f.cells))),(27,.p (.int .i64 (p.procs.map fun f=>AV.agg f.cells).length)),(28,.p (.int .i64 j)),(61,.p (.sl (p.procs[j].params.map fun a => .agg a.cells))),(62,.p (.int .i64 (p.procs[j].params.map fun a=>AV.agg a.cells).length)),(63,.p (.int .i64 k))],[]⟩) (fun k=>k≤p.procs[j].params.length∧(p.procs[j].params.drop k).all (fun a=>isName a.name)=p.procs[j].params.all fun a=>isName a.name) (fun k=>p.procs[j].params.length-k) 0 (Le.of_eq rfl) ⟨Nat.zero_le _,rfl⟩ ?_
  rintro k ⟨h3,h4⟩
  rcases Nat.lt_or_ge k p.procs[j].params.length with hk|hk
  ·conv=>whnf
   repeat' (first|((first|(refine CallK.pure (XP _) (by repeat' (first|exact ArgP.nil|refine ArgP.cons ?_ ?_|exact Sub.refl _|exact Sub.tt rfl|exact Sub.ff rfl)) ?_;rintro _ rfl)|refine And.intro rfl ?_|refine IdxK.map (by omega) (fun _=>rfl) ?_|refine Wr.i64 (by omega) (by omega) ?_);conv=>whnf)|(refine Br.dec (fun _=>?_) (fun _=>?_)<;>first|(exfalso;omega)|conv=>whnf)|(refine Br.n (fun _=>?_) (fun _=>?_)<;>conv=>whnf))
   ·exact ⟨k+1,⟨hk,by rw [← h4,JA (p:=fun a:Param=>isName a.name) hk (by assumption)]⟩,by omega,Le.of_eq rfl⟩
   ·refine RetK.ff (FY fun h => ?_)
    have h5:=List.all_eq_true.1 ((FU h).pr _ (List.getElem_mem hj)).2.2.2.2.2 _ (List.getElem_mem hk)
    simp_all
  ·rw [JE hk] at h4
   have G6:=G5 h4.symm
   conv=>whnf
   repeat' (first|(refine Wr.i64 (by omega) (by omega) ?_;conv=>whnf)|(refine Br.dec (fun _=>?_) (fun _=>?_)<;>first|(exfalso;omega)|conv=>whnf))
   refine ⟨j+1,⟨hj,fun m hm hmj => ?_⟩,by omega,Le.of_eq rfl⟩
   rcases Nat.lt_or_ge m j with h5|h5
   ·exact G4 m hm h5
   ·obtain rfl:m=j:=by omega
    exact G6
 ·have G5 : ∀ f∈p.procs,JO f=true:=fun f hf=>by
   obtain ⟨m,hm,rfl⟩:=List.mem_iff_getElem.1 hf
   exact G4 m hm (by omega)
  conv=>whnf
  have hrl:=WJ (allR p)
  repeat' (first|((first|intro (_:_≤9223372036854775807)|(refine CallK.pure (UN _) (by repeat' (first|exact ArgP.nil|refine ArgP.cons ?_ ?_|exact Sub.refl _|exact Sub.tt rfl|exact Sub.ff rfl)) ?_;rintro _ rfl));conv=>whnf)|(refine Br.dec (fun _=>?_) (fun _=>?_)<;>first|(exfalso;omega)|conv=>whnf))
  ·refine RetK.ff (FY fun h => ?_)
   have:=(FU h).len
   omega
  have G6:(allR p).length≤200:=by omega
  refine LoopK.inv QQ (fun k:Nat=>⟨[(7,.p (JF (allR p))),(79,.p (.int .i64 ((allR p).map fun i=>AV.agg i.cells).length)),(80,.p (.int .i64 k))],[]⟩) (fun k=>k≤(allR p).length ∧ ∀ (m:Nat) (x:RI),m<k→(allR p)[m]? = some x→x.s.id=(m:Int)+1∧x.deep≤12∧oneOk x.s=true) (fun k=>(allR p).length-k) 0 (Le.of_eq rfl) ⟨Nat.zero_le _,fun m x h=>absurd h (Nat.not_lt_zero _)⟩ ?_
  rintro k ⟨h3,G7⟩
  rcases Nat.lt_or_ge k (allR p).length with hk|hk
  ·conv=>whnf
   have F:=fun h:VX p=true=>(FU h).its k _ (List.getElem?_eq_getElem hk)
   repeat' (first|((first|refine IdxK.map (by omega) (fun _=>rfl) ?_|refine Wr.i64 (by omega) (by omega) ?_|(refine CallK.pure (NZ (allR p)[k].s) (.cons (Sub.refl _) .nil) ?_;rintro _ rfl));conv=>whnf)|(refine Br.dec (fun _=>?_) (fun _=>?_)<;>first|(exfalso;omega)|conv=>whnf)|(refine Br.dec2 (fun _=>?_) (fun _=>?_)<;>first|(exfalso;omega)|conv=>whnf)|(refine Br.n (fun _=>?_) (fun _=>?_)<;>conv=>whnf))
   all_goals first
    | (refine ⟨k+1,⟨hk,fun m x hm hx => ?_⟩,by omega,Le.of_eq rfl⟩
       rcases Nat.lt_or_ge m k with h5|h5
       ·exact G7 m x h5 hx
       ·obtain rfl:m=k:=by omega
        rw [List.getElem?_eq_getElem hk] at hx
        obtain rfl:=Option.some.inj hx
        exact ⟨by omega,by omega,by assumption⟩)
    | (refine RetK.ff (FY fun h => ?_)
       obtain ⟨F1,F2,F3⟩:=F h
       first
        | omega
        | (simp_all
           done))
  ·conv=>whnf
   repeat' (refine Br.dec (fun _=>?_) (fun _=>?_)<;>first|(exfalso;omega)|conv=>whnf)
   exact RetK.tt (w2m G1 G2 G3 G5 G6 fun m x hx=>G7 m x (by have:=(List.getElem?_eq_some_iff.1 hx).1;omega) hx)
def q0m (p:Pg) (n:Str):Pr×Bool:=bif VX p then VS p n else (Pr0,false)
theorem UC (p:Pg) (n:Str):SpecP Tryz.prog 58 [.agg p.cells,.str n] (fun r=>r = .tup [.agg (q0m p n).1.cells,.bool (q0m p n).2]):=by
 refine SpecP.body PQ QQ Tryz.func58 rfl Tryz.call58 (by show 2≤_;decide) ?_
 conv=>whnf
 have hpl:(p.procs.map fun f=>AV.agg f.cells).length=p.procs.length:=List.length_map _
 repeat' (first|((first|intro (_:_≤9223372036854775807)|(refine CallK.pure (YH _) (by repeat' (first|exact ArgP.nil|refine ArgP.cons ?_ ?_|exact Sub.refl _|exact Sub.tt rfl|exact Sub.ff rfl)) ?_;rintro _ rfl)|refine And.intro rfl ?_);conv=>whnf)|(refine Br.b (fun _=>?_) (fun _=>?_)<;>conv=>whnf))
 ·have hM:q0m p n=VS p n:=by unfold q0m;rw [show VX p=true by assumption];rfl
  rw [hM]
  refine LoopK.inv QQ (fun j:Nat=>⟨[(1,.p (.str n)),(4,.ptr 1 0),(11,.p (.sl (p.procs.map fun f => .agg f.cells))),(12,.p (.int .i64 (p.procs.map fun f=>AV.agg f.cells).length)),(13,.p (.int .i64 j))],[(1,.obj 67 [.p (.str []),.p .nils,.p .nils,.p .nils,.p .nils])]⟩) (fun j=>j≤p.procs.length∧(p.procs.drop j).find? (fun f=>f.name==n)=p.procs.find? fun f=>f.name==n) (fun j=>p.procs.length-j) 0 (Le.of_eq rfl) ⟨Nat.zero_le _,rfl⟩ ?_
  rintro j ⟨h2,h3⟩
  rcases Nat.lt_or_ge j p.procs.length with hj|hj
  ·rw [QJ hj,List.find?_cons] at h3
   conv=>whnf
   repeat' (first|((first|refine And.intro rfl ?_|refine IdxK.map (by omega) (fun _=>rfl) ?_|refine Wr.i64 (by omega) (by omega) ?_);conv=>whnf)|(refine Br.dec (fun _=>?_) (fun _=>?_)<;>first|(exfalso;omega)|conv=>whnf)|(refine Br.b (fun _=>?_) (fun _=>?_)<;>conv=>whnf))
   ·have hn:(p.procs[j].name==n)=true:=by assumption
    rw [hn] at h3
    exact ⟨_,.p (Sub.tup (SubL.cons (Sub.refl _) (SubL.cons (Sub.tt rfl) SubL.nil))),by unfold VS;rw [← h3];first|done|rfl⟩
   ·have hn:(p.procs[j].name==n)=false:=by assumption
    rw [hn] at h3
    exact ⟨j+1,⟨hj,h3⟩,by omega,Le.of_eq rfl⟩
  ·rw [List.drop_eq_nil_of_le hj,List.find?_nil] at h3
   conv=>whnf
   repeat' (first|(refine And.intro rfl ?_;conv=>whnf)|(refine Br.dec (fun _=>?_) (fun _=>?_)<;>first|(exfalso;omega)|conv=>whnf))
   exact ⟨_,.p (Sub.tup (SubL.cons x5p (SubL.cons (Sub.ff rfl) SubL.nil))),by unfold VS;rw [← h3];first|done|rfl⟩
 ·have hM:q0m p n=(Pr0,false):=by unfold q0m;rw [show VX p=false by assumption];rfl
  rw [hM]
  exact ⟨_,.p (Sub.tup (SubL.cons x5p (SubL.cons (Sub.ff rfl) SubL.nil))),rfl⟩
end Go.Ab
