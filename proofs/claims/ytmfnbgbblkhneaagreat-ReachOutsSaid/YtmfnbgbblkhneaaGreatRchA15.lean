/- The reference's statements: what the program's own reading lets stand has the reference's marks. -/
import Derived.Test.YtmfnbgbblkhneaaGreatRchA9
import Derived.Test.YtmfnbgbblkhneaaGreatRchA14
set_option linter.unusedSimpArgs false
set_option linter.unusedVariables false
set_option maxRecDepth 100000
set_option maxHeartbeats 16000000
open List (Nodup)
namespace Go.Ab
open Go.Proofs.Tryz
open Go.Proofs
variable {e:Bool}{f:Pr}{k:Nat}{l:List Int}{p:Pg}
def oneOk(s:S):Bool:=VR s&&namesB s.labels
def hasXB(s:S):Bool:=decide (s.kind=1)||decide (s.kind=3)||decide (s.kind=5)||decide (s.kind=6)||(decide (s.kind=9)&&s.has)
structure OneF(s:S):Prop where
 labels:namesB s.labels=true
 lo:1<=s.kind
 hi:s.kind<=10
 x:hasXB s=true->mayXR s.x=true
 nox:hasXB s=false->noneB s.x=true
 has:s.has=true->s.kind=9
 name:s.kind=1\/s.kind=2\/s.kind=10->isName s.name=true
 noname:¬(s.kind=1\/s.kind=2\/s.kind=10)->(s.name==[])=true\/(s.kind=4/\isName s.name=true)
 proc:s.kind=4->isName s.proc=true
 noproc:s.kind≠4->(s.proc==[])=true
 args:s.args.all argR=true
 noargs:s.kind≠4->s.args.length=0
 thn:s.thn.length=0\/s.kind=5\/s.kind=6
 els:s.els.length=0\/s.kind=5
theorem SC{s:S}(h:oneOk s=true):OneF s:=by
 unfold oneOk at h;rw[q8j]at h;obtain⟨h,hlab⟩:=h;have hargs:s.args.all Vp=true->s.args.all argR=true:=fun h=>by
  rw[q9b]at h⊢;exact fun a ha=>Ox (h a ha)
 have key:∀(k:Int)(f:Flds),s.kind=k->Xt s.kind s.has (s.name==[])=some f->f.has=false/\(f.thn=false->s.thn.length=0)/\(f.els=false->s.els.length=0)/\(s.kind≠4->s.args.length=0)/\GE s.name f.name=true/\GE s.proc f.proc=true/\BH s.x f.x=true/\s.args.all argR=true:=fun k f hk hf=>by
  rw[RU hf]at h;simp only[q8j,x0p,x2y,Bool.and_eq_false_iff,Bool.not_eq_false',q9s,q8e]at h;obtain⟨⟨⟨⟨⟨⟨⟨h1,h2⟩,h3⟩,h4⟩,h5⟩,h6⟩,h7⟩,h8⟩:=h;refine⟨h1,fun hq=>?_,fun hq=>?_,fun hq=>?_,h5,h6,h7,hargs h8⟩
  ·rcases h2 with h2|h2
   ·rw[hq]at h2;cases h2
   ·omega
  ·rcases h3 with h3|h3
   ·rw[hq]at h3;cases h3
   ·omega
  ·rcases h4 with h4|h4
   ·exact absurd h4 hq
   ·omega
 have hkind:s.kind=1\/s.kind=2\/s.kind=3\/s.kind=4\/s.kind=5\/s.kind=6\/s.kind=7\/s.kind=8\/s.kind=9\/s.kind=10:=by
  unfold VR at h;split at h
  ·cases h
  ·rename_i f hf;unfold Xt at hf
   (repeat' split at hf)<;>first|(cases hf;done)|omega
 have fin:∀(k:Int)(f:Flds),s.kind=k->Xt s.kind s.has (s.name==[])=some f->(1<=k/\k<=10)->f.x=hasXB s->(s.has=true->f.has=true\/k=9)->((k=1\/k=2\/k=10)->f.name=true)->(¬(k=1\/k=2\/k=10)->f.name=false\/(k=4/\f.name = !(s.name==[])))->f.proc=decide (k=4)->(f.thn=true->k=5\/k=6)->(f.els=true->k=5)->OneF s:=fun k f hk hf hkk hfx hfh hfn hfnn hfp hft hfe=>by
  obtain⟨h1,h2,h3,h4,h5,h6,h7,h8⟩:=key k f hk hf;unfold BH at h7;refine⟨hlab,by omega,by omega,fun hq=>?_,fun hq=>?_,fun hq=>?_,fun hq=>?_,fun hq=>?_,fun hq=>?_,fun hq=>?_,h8,h4,?_,?_⟩
  ·rw[hfx,hq]at h7;exact Il h7
  ·rw[hfx,hq]at h7;exact h7
  ·rcases hfh hq with h9|h9
   ·rw[h1]at h9;cases h9
   ·omega
  ·rw[hfn (by omega)]at h5;exact h5
  ·rcases hfnn (by omega)with h9|⟨h9,h10⟩
   ·rw[h9]at h5;exact .inl h5
   ·cases hq2:s.name==[]with
    |true=>exact .inl rfl
    | false=>
      rw[h10,hq2]at h5;exact .inr ⟨by omega,h5⟩
  ·rw[hfp,x0b (by omega)]at h6;exact h6
  ·rw[hfp,x0y (by omega)]at h6;exact h6
  ·cases ht:f.thn with
   |true=>exact .inr (by have:=hft ht;omega)
   |false=>exact .inl (h2 ht)
  ·cases he:f.els with
   |true=>exact .inr (by have:=hfe he;omega)
   |false=>exact .inl (h3 he)
 rcases hkind with hk|hk|hk|hk|hk|hk|hk|hk|hk|hk
 ·exact fin 1 ⟨true,false,true,s.has,false,false⟩ hk (by rw[hk];rfl) (by omega) (by unfold hasXB;rw[hk];rfl) (fun h=>.inl h) (fun _=>rfl) (fun h=>absurd (by omega) h) rfl (fun h=>by cases h) (fun h=>by cases h)
 ·exact fin 2 ⟨true,false,false,s.has,false,false⟩ hk (by rw[hk];rfl) (by omega) (by unfold hasXB;rw[hk];rfl) (fun h=>.inl h) (fun _=>rfl) (fun h=>absurd (by omega) h) rfl (fun h=>by cases h) (fun h=>by cases h)
 ·exact fin 3 ⟨false,false,true,s.has,false,false⟩ hk (by rw[hk];rfl) (by omega) (by unfold hasXB;rw[hk];rfl) (fun h=>.inl h) (fun h=>by omega) (fun _=>.inl rfl) rfl (fun h=>by cases h) (fun h=>by cases h)
 ·exact fin 4 ⟨!(s.name==[]),true,false,s.has,false,false⟩ hk (by rw[hk];rfl) (by omega) (by unfold hasXB;rw[hk];rfl) (fun h=>.inl h) (fun h=>by omega) (fun _=>.inr ⟨rfl,rfl⟩) rfl (fun h=>by cases h) (fun h=>by cases h)
 ·exact fin 5 ⟨false,false,true,s.has,true,true⟩ hk (by rw[hk];rfl) (by omega) (by unfold hasXB;rw[hk];rfl) (fun h=>.inl h) (fun h=>by omega) (fun _=>.inl rfl) rfl (fun _=>.inl rfl) (fun _=>rfl)
 ·exact fin 6 ⟨false,false,true,s.has,true,false⟩ hk (by rw[hk];rfl) (by omega) (by unfold hasXB;rw[hk];rfl) (fun h=>.inl h) (fun h=>by omega) (fun _=>.inl rfl) rfl (fun _=>.inr rfl) (fun h=>by cases h)
 ·exact fin 7 ⟨false,false,false,s.has,false,false⟩ hk (by rw[hk];rfl) (by omega) (by unfold hasXB;rw[hk];rfl) (fun h=>.inl h) (fun h=>by omega) (fun _=>.inl rfl) rfl (fun h=>by cases h) (fun h=>by cases h)
 ·exact fin 8 ⟨false,false,false,s.has,false,false⟩ hk (by rw[hk];rfl) (by omega) (by unfold hasXB;rw[hk];rfl) (fun h=>.inl h) (fun h=>by omega) (fun _=>.inl rfl) rfl (fun h=>by cases h) (fun h=>by cases h)
 ·exact fin 9 ⟨false,false,s.has,false,false,false⟩ hk (by rw[hk];rfl) (by omega) (by unfold hasXB;rw[hk];cases s.has<;>rfl) (fun _=>.inr rfl) (fun h=>by omega) (fun _=>.inl rfl) rfl (fun h=>by cases h) (fun h=>by cases h)
 ·exact fin 10 ⟨true,false,false,s.has,false,false⟩ hk (by rw[hk];rfl) (by omega) (by unfold hasXB;rw[hk];rfl) (fun h=>.inl h) (fun _=>rfl) (fun h=>absurd (by omega) h) rfl (fun h=>by cases h) (fun h=>by cases h)
structure RI where
 s:S
 deep:Int
 inn:Int
 els:Bool
def RI.cells(i:RI):List AV:=i.s.cells++[.int .i64 i.deep,.int .i64 i.inn,.bool i.els]
def q1x(l:List RI):AV:=.sl (l.map fun i=>.agg i.cells)
def flF:Nat->Int->Bool->List S->List RI->List RI
 |0,i,e,l,out=>l.foldl (fun o s=>if o.length<=200 then o++[⟨s,13,i,e⟩]else o) out
 |m+1,i,e,l,out=>l.foldl (fun o s=>if o.length<=200 then flF m s.id true s.els (flF m s.id false s.thn (o++[⟨s,13-((m+1:Nat):Int),i,e⟩]))else o) out
theorem V4:∀(m:Nat)(i:Int)(e:Bool)(l:List S)(out:List RI),out.length<=(flF m i e l out).length/\(flF m i e l out).length<=max out.length 201
 |0,i,e,[],out=>by show out.length<=out.length/\_;exact⟨q8z _,Nat.le_max_left _ _⟩
 |m+1,i,e,[],out=>by show out.length<=out.length/\_;exact⟨q8z _,Nat.le_max_left _ _⟩
 | 0,i,e,s::r,out=>by
   have h:=V4 0 i e r (if out.length<=200 then out++[⟨s,13,i,e⟩]else out);show out.length<=(flF 0 i e r (if out.length<=200 then out++[⟨s,13,i,e⟩]else out)).length/\(flF 0 i e r (if out.length<=200 then out++[⟨s,13,i,e⟩]else out)).length<=_;split at h
   ·rw[if_pos (by assumption)];simp only[q7b,q8p]at h;omega
   ·rw[if_neg (by assumption)];exact h
 | m+1,i,e,s::r,out=>by
   have h:=V4 (m+1) i e r (if out.length<=200 then flF m s.id true s.els (flF m s.id false s.thn (out++[⟨s,13-((m+1:Nat):Int),i,e⟩]))else out);show out.length<=(flF (m+1) i e r (if out.length<=200 then flF m s.id true s.els (flF m s.id false s.thn (out++[⟨s,13-((m+1:Nat):Int),i,e⟩]))else out)).length/\(flF (m+1) i e r (if out.length<=200 then flF m s.id true s.els (flF m s.id false s.thn (out++[⟨s,13-((m+1:Nat):Int),i,e⟩]))else out)).length<=_;split at h
   ·rw[if_pos (by assumption)];have h1:=V4 m s.id false s.thn (out++[⟨s,13-((m+1:Nat):Int),i,e⟩]);have h2:=V4 m s.id true s.els (flF m s.id false s.thn (out++[⟨s,13-((m+1:Nat):Int),i,e⟩]));simp only[q7b,q8p]at h1;omega
   ·rw[if_neg (by assumption)];exact h
mutual
def fuS(d i:Int)(e:Bool):S->List RI
 |.mk id kind labels name proc x has args thn els=>⟨.mk id kind labels name proc x has args thn els,d,i,e⟩::(fuL (d+1) id false thn++fuL (d+1) id true els)
def fuL(d i:Int)(e:Bool):List S->List RI
 |[]=>[]
 |t::r=>fuS d i e t++fuL d i e r
end
theorem q1k(d i:Int)(e:Bool)(t:S):fuS d i e t=⟨t,d,i,e⟩::(fuL (d+1) t.id false t.thn++fuL (d+1) t.id true t.els):=by
 cases t;rw[fuS];rfl
mutual
theorem q3n(d i:Int)(e:Bool):∀t:S,(fuS d i e t).map RI.s=flS t
 | .mk id kind labels name proc x has args thn els=>by
   rw[fuS,flS,q8f,q7o,N5 _ _ _ thn,N5 _ _ _ els]
theorem N5(d i:Int)(e:Bool):∀l:List S,(fuL d i e l).map RI.s=flL l
 |[]=>by rw[fuL,flL];rfl
 |t::r=>by rw[fuL,flL,q7o,q3n _ _ _ t,N5 _ _ _ r]
end
theorem Gb(d i:Int)(e:Bool)(l:List S):(fuL d i e l).length=QU l:=by
 rw[<-V5,<-N5 d i e l,q7f]
theorem Qe{nest seen m:Int}{s:S}(h:Bs nest seen s=some m):oneOk s=true/\s.id=seen+1/\∃m1,JY (nest+1) (seen+1) s.thn=some m1/\JY (nest+1) m1 s.els=some m:=by
 rw[Cx]at h;split at h
 ·cases h
 split at h
 ·cases h
 rename_i hid;cases hn:namesB s.labels<;>rw[hn]at h
 ·cases h
 cases hf:VR s<;>rw[hf]at h
 ·cases h
 simp only[q8g]at h;split at h
 ·rename_i m1 h1;exact⟨by unfold oneOk;rw[hn,hf];rfl,by omega,m1,h1,h⟩
 ·cases h
theorem DN{nest seen m:Int}{s:S}{r:List S}(h:JY nest seen (s::r)=some m):nest<=12/\∃m1,Bs nest seen s=some m1/\JY nest m1 r=some m:=by
 rw[JY]at h;split at h
 ·cases h
 rename_i h0;split at h
 ·rename_i m1 h1;exact⟨by omega,m1,h1,h⟩
 ·cases h
mutual
theorem q1g(d i:Int)(e:Bool):∀(t:S){n m:Int},d<=12->Bs d n t=some m->∀x∈fuS d i e t,x.deep<=12/\oneOk x.s=true
 | .mk id kind labels name proc x has args thn els,n,m,hd,h,y,hy=>by
   obtain⟨h1,_,m1,h2,h3⟩:=Qe h;rw[fuS]at hy;rcases q7r.1 hy with rfl|hy
   ·exact⟨hd,h1⟩
   ·rcases q7a.1 hy with hy|hy
    ·exact Ml _ _ _ thn h2 y hy
    ·exact Ml _ _ _ els h3 y hy
theorem Ml(d i:Int)(e:Bool):∀(l:List S){n m:Int},JY d n l=some m->∀x∈fuL d i e l,x.deep<=12/\oneOk x.s=true
 |[],n,m,h,y,hy=>by rw[fuL]at hy;cases hy
 | t::r,n,m,h,y,hy=>by
   obtain⟨h1,m1,h2,h3⟩:=DN h;rw[fuL]at hy;rcases q7a.1 hy with hy|hy
   ·exact q1g _ _ _ t h1 h2 y hy
   ·exact Ml _ _ _ r h3 y hy
end
theorem q1u:∀(k:Nat)(l:List S)(i:Int)(e:Bool)(out:List RI)(seen m:Int),JY (13-(k:Int)) seen l=some m->out.length+QU l<=200->flF k i e l out=out++fuL (13-(k:Int)) i e l:=by
 intro k;induction k with
 | zero=>
   intro l i e out seen m h hl;cases l with
   |nil=>rw[fuL,q9h];rfl
   | cons s r=>
     have:=(DN h).1;simp at this
 | succ k ih=>
   intro l;induction l with
   |nil=>intro i e out seen m h hl;rw[fuL,q9h];rfl
   | cons s r ihr=>
     intro i e out seen m h hl;obtain⟨h1,m1,h2,h3⟩:=DN h;obtain⟨_,_,m2,h4,h5⟩:=Qe h2;have ed:(13:Int)-((k+1:Nat):Int)+1=13-(k:Int):=by omega
     rw[ed]at h4 h5;rw[QU,VN]at hl;show flF (k+1) i e r (if out.length<=200 then flF k s.id true s.els (flF k s.id false s.thn (out++[⟨s,13-((k+1:Nat):Int),i,e⟩]))else out)=_;rw[if_pos (by omega),ih s.thn s.id false _ _ _ h4 (by simp;omega),ih s.els s.id true _ _ _ h5 (by simp[Gb];omega),ihr i e _ _ _ h3 (by simp[Gb];omega),fuL,q1k,ed];simp
def HE(f:Pr):List RI:=flF 12 0 false f.body []
def Y9(l:List Pr)(out:List RI):List RI:=l.foldl (fun o f=>if o.length<=200 then o++HE f else o) out
def allR(p:Pg):List RI:=Y9 p.procs []
def flatU(f:Pr):List RI:=fuL 1 0 false f.body
theorem U1:∀(l:List Pr){n m:Int},XO n l=some m->∀f∈l,DI f=true/\∃a b,JY 1 a f.body=some b
 |[],_,_,_,f,hf=>by cases hf
 | g::r,n,m,h,f,hf=>by
   rw[XO]at h;cases hm:DI g<;>rw[hm]at h
   ·cases h
   simp only[q8g]at h;split at h
   ·rename_i m1 h1;rcases q7r.1 hf with rfl|hf
    ·exact⟨hm,_,_,h1⟩
    ·exact U1 r h f hf
   ·cases h
theorem Qd(h:HY p=true):p.globals.length<=16/\p.procs.length<=16/\namesB p.globals=true/\∀f∈p.procs,DI f=true/\∃a b,JY 1 a f.body=some b:=by
 unfold HY at h;simp only[q8j,q8e]at h;obtain⟨⟨⟨h1,h2⟩,h3⟩,h4⟩:=h;refine⟨h1,h2,h3,?_⟩;cases hm:XO 0 p.procs with
 |none=>rw[hm]at h4;cases h4
 |some m=>exact U1 p.procs hm
theorem NS:∀(l:List Pr)(f:Pr),f∈l->QU f.body<=cntP l
 |[],f,h=>by cases h
 | g::r,f,h=>by
   rw[cntP];rcases q7r.1 h with rfl|h
   ·omega
   ·have:=NS r f h;omega
theorem Zt(h:HY p=true)(hf:f∈p.procs):HE f=flatU f:=by
 obtain⟨_,_,_,h4⟩:=Qd h;obtain⟨_,a,b,h5⟩:=h4 f hf;have h6:=(WC h).2.2;have h7:=NS _ f hf;have:=q1u 12 f.body 0 false [] a b h5 (by simp;omega);simpa[HE,flatU]using this
theorem M9:∀(l:List Pr)(out:List RI),(∀f∈l,HE f=flatU f)->out.length+cntP l<=200->Y9 l out=out++l.flatMap flatU
 |[],out,_,_=>by show out=_;simp
 | f::r,out,h,hl=>by
   rw[cntP]at hl;show Y9 r (if out.length<=200 then out++HE f else out)=_;have e:=Gb 1 0 false f.body;rw[if_pos (by omega),h f q7d,M9 r _ (fun g hg=>h g (q7n _ hg)) (by simp only[flatU,q7b,e];omega)];simp
theorem G7(h:HY p=true):allR p=p.procs.flatMap flatU:=by
 have:=M9 p.procs [] (fun f hf=>Zt h hf) (by have:=(WC h).2.2;simpa using this);simpa[allR]using this
theorem IN(h:HY p=true):∀x∈p.procs.flatMap flatU,x.deep<=12/\oneOk x.s=true:=by
 intro x hx;obtain⟨f,hf,hx⟩:=q8r.1 hx;obtain⟨_,_,_,h4⟩:=Qd h;obtain⟨_,a,b,h5⟩:=h4 f hf;exact Ml 1 0 false f.body h5 x hx
theorem MM:∀(l:List Pr){n:Nat}{m:Int},XO n l=some m->(l.flatMap fun f=>flL f.body).map S.id=Zj n (cntP l)
 |[],n,m,_=>by rw[cntP];rfl
 | g::r,n,m,h=>by
   rw[XO]at h;cases hm:DI g<;>rw[hm]at h
   ·cases h
   simp only[q8g]at h;split at h
   ·rename_i m1 h1;have h2:=JR _ _ g.body h1;have h':XO ((n+QU g.body:Nat):Int) r=some m:=by rw[<-h,h2];rfl
    have h3:=MM r h';rw[q9m,q7o,MI 1 g.body h1,h3,cntP,Zs]
   ·cases h
theorem q0m(l:List Pr):(l.flatMap flatU).map RI.s=l.flatMap fun f=>flL f.body:=by
 induction l with
 |nil=>rfl
 | cons f r ih=>
   rw[q9m,q9m,q7o,ih];congr 1;exact N5 _ _ _ _
theorem Mq(l:List Pr):(l.flatMap flatU).length=cntP l:=by
 induction l with
 |nil=>rfl
 |cons f r ih=>rw[q9m,q7b,ih,cntP];congr 1;exact Gb _ _ _ _
theorem Ar(h:HY p=true){x:RI}(hk:(p.procs.flatMap flatU)[k]?=some x):x.s.id=(k:Int)+1:=by
 unfold HY at h;simp only[q8j,q8e]at h;cases hm:XO 0 p.procs with
 |none=>rw[hm]at h;cases h.2
 | some m=>
   have h1:=MM p.procs (n:=0) hm;rw[<-q0m]at h1;have h2:(((p.procs.flatMap flatU).map RI.s).map S.id)[k]?=some x.s.id:=by simp[hk]
   rw[h1]at h2;unfold Zj at h2;have hlt:k<cntP p.procs:=by rw[<-Mq];exact(q7t.1 hk).1
   rw[q7l,List.getElem?_range' hlt]at h2;simp at h2;omega
def riH(t:Nat)(out:List RI):Heap:=[(2000,.own t 16 (out.map fun i=>.agg i.cells))]
theorem OZ{t:Nat}{out:List RI}{x:RI}:riH t (out++[x])=[(2000,.own t 16 ((out.map fun i=>.agg i.cells)++[.agg x.cells]))]:=by simp[riH]
theorem Bm(l:List RI):(l.map fun i=>AV.agg i.cells).length=l.length:=q7f _
theorem AF{i:Int}{l:List S}{j:Nat}{o:List RI}(hj:j<l.length)(h:o.length<=200):flF 0 i e (l.drop j) o=flF 0 i e (l.drop (j+1)) (o++[⟨l[j],13,i,e⟩]):=by
 rw[QB hj];show flF 0 i e (l.drop (j+1)) (if o.length<=200 then _ else _)=_;rw[if_pos h]
theorem O4{m:Nat}{i:Int}{l:List S}{j:Nat}{o:List RI}(hj:j<l.length)(h:o.length<=200):flF (m+1) i e (l.drop j) o=flF (m+1) i e (l.drop (j+1)) (flF m l[j].id true l[j].els (flF m l[j].id false l[j].thn (o++[RI.mk l[j] (13-((m+1:Nat):Int)) i e]))):=by
 rw[QB hj];show flF (m+1) i e (l.drop (j+1)) (if o.length<=200 then _ else _)=_;rw[if_pos h]
theorem Zl:∀(m:Nat){i:Int}{e:Bool}{l:List S}{o:List RI},¬o.length<=200->flF m i e l o=o
 |0,i,e,[],o,_=>rfl
 |m+1,i,e,[],o,_=>rfl
 | 0,i,e,s::r,o,h=>by
   show flF 0 i e r (if o.length<=200 then _ else o)=o;rw[if_neg h];exact Zl 0 h
 | m+1,i,e,s::r,o,h=>by
   show flF (m+1) i e r (if o.length<=200 then _ else o)=o;rw[if_neg h];exact Zl (m+1) h
theorem S9(m:Nat){i:Int}{o:List RI}:flF m i e [] o=o:=by cases m<;>rfl
theorem Xq:∀(m:Nat)(_:m<=12)(l:List S)(i:Int)(e:Bool)(out:List RI),
  SpecH prog 61 [.p (eSs l),.p (.int .i64 (13-(m:Int))),.p (.int .i64 i),.p (.bool e),.hd 2000 0 out.length] (riH 101 out)
   (fun r H=>r=.hd 2000 0 (flF m i e l out).length/\H=riH 101 (flF m i e l out)):=by
 intro m;induction m with
 | zero=>
   intro _ l i e out;have hll:=S.avs_len l;refine sH YM func61 rfl call61 ?_;conv=>whnf
   skip
   refine LoopK.inv QK (fun x:Nat×List RI=>⟨[(0,.p (eSs l)),(1,.p (.int .i64 (13-((0:Nat):Int)))),(2,.p (.int .i64 i)),(3,.p (.bool e)),(4,.hd 2000 0 x.2.length),(11,.p (.int .i64 x.1))],riH 101 x.2⟩) (fun x=>x.1<=l.length/\flF 0 i e (l.drop x.1) x.2=flF 0 i e l out) (fun x=>l.length-x.1) (0,out) (Le.of_eq rfl) ⟨q7c _,rfl⟩ ?_;rintro⟨j,o⟩ ⟨h2,h3⟩;simp only at h2 h3⊢;have hol:=Bm o;rcases q7e j l.length with hj|hj
   ·conv=>whnf
    repeat' (first|((first|(refine iM fun _=>?_)|refine q7p rfl ?_|refine aD ?_|refine bP ?_|refine QX (by omega) ?_|refine wI ?_|refine x1m (by simp) rfl (by show(o.length+1)*232<=140737488355328;omega) (by show o.length+1<=9223372036854775807;omega) (fun x hx=>by rcases q7m.1 hx with rfl;exact⟨rfl,rfl⟩) ?_);conv=>whnf)|(apply bD<;>intro _<;>first|omega|conv=>whnf))
    ·exact⟨(j+1,o++[⟨l[j],13,i,e⟩]),⟨hj,by rw[<-h3,AF hj (by omega)]⟩,by simp only;omega,Le.of_eq (by simp only[OZ,q7b,q8p];rfl)⟩
    ·rw[Zl 0 (by omega)]at h3;exact⟨_,.refl _,by rw[<-h3];exact⟨rfl,rfl⟩⟩
   ·conv=>whnf
    repeat' (first|(refine iM fun _=>?_;conv=>whnf)|(apply bD<;>intro _<;>first|omega|conv=>whnf))
    rw[q8v hj,S9]at h3;exact⟨_,.refl _,by rw[<-h3];exact⟨rfl,rfl⟩⟩
 | succ m ih=>
   intro hm l i e out;have hll:=S.avs_len l;refine sH YM func61 rfl call61 ?_;conv=>whnf
   skip
   refine LoopK.inv QK (fun x:Nat×List RI=>⟨[(0,.p (eSs l)),(1,.p (.int .i64 (13-((m+1:Nat):Int)))),(2,.p (.int .i64 i)),(3,.p (.bool e)),(4,.hd 2000 0 x.2.length),(11,.p (.int .i64 x.1))],riH 101 x.2⟩) (fun x=>x.1<=l.length/\flF (m+1) i e (l.drop x.1) x.2=flF (m+1) i e l out) (fun x=>l.length-x.1) (0,out) (Le.of_eq rfl) ⟨q7c _,rfl⟩ ?_;rintro⟨j,o⟩ ⟨h2,h3⟩;simp only at h2 h3⊢;have hol:=Bm o;rcases q7e j l.length with hj|hj
   ·conv=>whnf
    repeat' (first|((first|(refine iM fun _=>?_)|refine dA ?_|refine q7p rfl ?_|refine aD ?_|refine bP ?_|refine QX (by omega) ?_|refine wI ?_|refine x1m (by simp) rfl (by show(o.length+1)*232<=140737488355328;omega) (by show o.length+1<=9223372036854775807;omega) (fun x hx=>by rcases q7m.1 hx with rfl;exact⟨rfl,rfl⟩) ?_);conv=>whnf)|(apply bD<;>intro _<;>first|omega|conv=>whnf))
    ·refine CallK.heap [(2000,2000)] 0 (q8w (q8k _) (q8w (q8m (Sub.int (by omega))) (q8w (q8k _) (q8w (q8m (Sub.ff rfl)) (q8w (x2b (by rw[q7b];rfl)) q8c))))) (by exact q8x (j:=2000) rfl rfl (CSub.of_eq (by rw[q7o];first|done|rfl)) q8a) (ih (by omega) l[j].thn l[j].id false (o++[RI.mk l[j] (13-((m+1:Nat):Int)) i e])) rfl rfl ?_;rintro l' H' ⟨rfl,rfl⟩;conv=>whnf
     repeat' ((first|refine dA ?_|refine QX (by omega) ?_|refine wI ?_);conv=>whnf)
     refine CallK.heap [(2000,2000)] 0 (q8w (q8k _) (q8w (q8m (Sub.int (by omega))) (q8w (q8k _) (q8w (q8m (Sub.tt rfl)) (q8w (q8k _) q8c))))) (by exact q8x (j:=2000) rfl rfl (CSub.refl _) q8a) (ih (by omega) l[j].els l[j].id true (flF m l[j].id false l[j].thn (o++[RI.mk l[j] (13-((m+1:Nat):Int)) i e]))) rfl rfl ?_;rintro l' H' ⟨rfl,rfl⟩;conv=>whnf
     repeat' (refine wI ?_;conv=>whnf)
     exact⟨(j+1,flF m l[j].id true l[j].els (flF m l[j].id false l[j].thn (o++[RI.mk l[j] (13-((m+1:Nat):Int)) i e]))),⟨hj,by rw[<-h3,O4 hj (by omega)]⟩,by simp only;omega,Le.of_eq rfl⟩
    ·rw[Zl (m+1) (by omega)]at h3;exact⟨_,.refl _,by rw[<-h3];exact⟨rfl,rfl⟩⟩
   ·conv=>whnf
    repeat' (first|(refine iM fun _=>?_;conv=>whnf)|(apply bD<;>intro _<;>first|omega|conv=>whnf))
    rw[q8v hj,S9]at h3;exact⟨_,.refl _,by rw[<-h3];exact⟨rfl,rfl⟩⟩
theorem KO(f:Pr):SpecP prog 31 [.agg f.cells] (fun r=>r=q1x (HE f)):=by
 refine sB BT func31 rfl call31 ?_;conv=>whnf
 skip
 refine CallK.nil 5 101 16 rfl (.cons rfl (.cons rfl (.cons rfl (.cons rfl (.row .nil))))) ?_;refine CallK.heap [(2000,5)] 0 (by repeat' (first|exact q8c|refine q8w ?_ ?_|exact q8k _|exact q8m Sub.nils|exact q8m (Sub.tt rfl)|exact q8m (Sub.ff rfl)|exact q8m (Sub.int (by omega)))) (by refine q8x (j:=5) rfl rfl ?_ ?_;exact CSub.refl _;exact q8a) (Xq 12 (by omega) f.body 0 false []) rfl rfl ?_;rintro l' H' ⟨rfl,rfl⟩;conv=>whnf
 exact⟨_,.hd rfl (by simp[HE]),rfl⟩
theorem RQ{l:List Pr}{j:Nat}{o:List RI}(hj:j<l.length)(h:o.length<=200):Y9 (l.drop j) o=Y9 (l.drop (j+1)) (o++HE l[j]):=by
 rw[QB hj];show Y9 (l.drop (j+1)) (if o.length<=200 then _ else _)=_;rw[if_pos h]
theorem Yc:∀{l:List Pr}{o:List RI},¬o.length<=200->Y9 l o=o
 |[],o,_=>rfl
 | f::r,o,h=>by
   show Y9 r (if o.length<=200 then _ else o)=o;rw[if_neg h];exact Yc h
theorem Dk(f:Pr):(HE f).length<=201:=by
 have:=(V4 12 0 false f.body []).2;simpa[HE]using this
theorem Zh(p:Pg):SpecP prog 62 [.agg p.cells] (fun r=>r=q1x (allR p)):=by
 refine sB NJ func62 rfl call62 ?_;conv=>whnf
 repeat' (refine iM fun _=>?_;conv=>whnf)
 have hl2:(p.procs.map fun f=>AV.agg f.cells).length=p.procs.length:=q7f _;refine LoopK.inv QK (fun x:Nat×List RI=>⟨[(3,.hd 1 0 x.2.length),(7,.p (.sl (p.procs.map fun f=>.agg f.cells))),(8,.p (.int .i64 (p.procs.map fun f=>AV.agg f.cells).length)),(9,.p (.int .i64 x.1))],[(1,.own 101 16 (x.2.map fun i=>.agg i.cells))]⟩) (fun x=>x.1<=p.procs.length/\x.2.length<=200/\Y9 (p.procs.drop x.1) x.2=allR p) (fun x=>p.procs.length-x.1) (0,[])
  (Le.mk [(1,.own 101 16 [])] (by simp[Chunk.new0];rfl) (by simp) (by simp) (.cons (.nil q7d) (.r (.r (.r .nil)))) (.new q7d .nil)) ⟨q7c _,q7c _,rfl⟩ ?_
 rintro⟨j,o⟩ ⟨h2,h4,h3⟩;simp only at h2 h3 h4⊢;have hol:=Bm o;rcases q7e j p.procs.length with hj|hj
 ·have hfl:=Dk p.procs[j];have hst:=fun(h:o.length<=200)=>RQ hj h;have hF:=KO p.procs[j];generalize hL:HE p.procs[j]=L at hfl hst hF;have hfl2:=Bm L;conv=>whnf
  repeat' (first|((first|(refine iM fun _=>?_)|refine q7p rfl ?_|refine aD ?_|(refine iA fun _=>?_)|refine wI ?_|refine cP hF ?_|refine x1m (by simp) rfl (by rw[hfl2];show(o.length+L.length)*232<=140737488355328;omega) (by rw[hfl2];show o.length+L.length<=9223372036854775807;omega) (fun x hx=>by obtain⟨y,_,rfl⟩:=q7s.1 hx;exact⟨rfl,rfl⟩) ?_);conv=>whnf)|(apply bD<;>intro _<;>first|omega|conv=>whnf))
  ·refine⟨_,.hd rfl (by simp),?_⟩;rw[<-h3,hst h4,Yc (by simp;omega),<-q7o];rfl
  ·exact⟨(j+1,o++L),⟨hj,by simp;omega,by rw[<-h3,hst h4]⟩,by simp only;omega,Le.of_eq (by simp only[q7b,q7o,q7f];rfl)⟩
 ·conv=>whnf
  repeat' (apply bD<;>intro _<;>first|omega|conv=>whnf)
  rw[q8v hj]at h3;refine⟨_,.hd rfl (by simp),?_⟩;rw[<-h3];simp[q1x,Y9]
def F9(n k:Int):Int:=if k<1 then 0 else if n.tmod k<0 then n.tmod k+k else n.tmod k
theorem ML{n k:Int}(hk:0<k):0<=F9 n k/\F9 n k<k:=by
 unfold F9;have h1:=Int.tmod_lt_of_pos n hk;have h2 : -k<n.tmod k:=by
  rcases Int.le_total 0 n with h|h
  ·have:=Int.tmod_nonneg k h;omega
  ·have h3:=Int.tmod_lt_of_pos (-n) hk;rw[Int.neg_tmod]at h3;omega
 rw[if_neg (by omega)];split<;>omega
theorem GO(n k:Int)(hk:k<=1000000):SpecP prog 24 [.int .i64 n,.int .i64 k] (fun r=>r=.int .i64 (F9 n k)):=by
 refine sB NK func24 rfl call24 ?_;conv=>whnf
 have h1:=fun h:0<k=>ML (n:=n) h;repeat' (first|(refine q7p (by omega) ?_;conv=>whnf)|(apply bD<;>intro _<;>first|omega|conv=>whnf))
 all_goals first
  | (refine Wr.i64 (by have:=h1 (by omega);unfold F9 at this;rw[if_neg (by omega),if_pos (by assumption)]at this;omega) (by have:=h1 (by omega);unfold F9 at this;rw[if_neg (by omega),if_pos (by assumption)]at this;omega) ?_
     conv=>whnf
     exact RetK.int (by unfold F9;rw[if_neg (by assumption),if_pos (by assumption)]))
  |exact RetK.int (by unfold F9;rw[if_pos (by assumption)])
  |exact RetK.int (by unfold F9;rw[if_neg (by assumption),if_neg (by assumption)])
def Pu(l:List Int)(x:Int):Bool:=l.any fun y=>decide (x=y)
theorem UP(l:List Int)(x:Int):SpecP prog 53 [QA l,.int .i64 x] (fun r=>r=.bool (Pu l x)):=by
 refine sB BL func53 rfl call53 ?_;conv=>whnf
 repeat' (refine iM fun _=>?_;conv=>whnf)
 have hl:(l.map (AV.int .i64)).length=l.length:=q7f _;refine LoopK.inv QK (fun j:Nat=>⟨[(1,.p (.int .i64 x)),(7,.p (QA l)),(8,.p (.int .i64 (l.map (AV.int .i64)).length)),(9,.p (.int .i64 j))],[]⟩) (fun j=>j<=l.length/\(l.drop j).any (fun y=>decide (x=y))=Pu l x) (fun j=>l.length-j) 0 (Le.of_eq rfl) ⟨q7c _,rfl⟩ ?_;rintro j ⟨h2,h3⟩;rcases q7e j l.length with hj|hj
 ·conv=>whnf
  repeat' (first|((first|(refine iA fun _=>?_)|refine wI ?_);conv=>whnf)|(apply bD<;>intro _<;>first|omega|conv=>whnf))
  all_goals first
   |exact RetK.tt (by rw[<-h3,G9 hj (by simp_all)])
   |exact⟨j+1,⟨hj,by rw[Yi hj (by simp;omega)];exact h3⟩,by omega,Le.of_eq rfl⟩
 ·conv=>whnf
  repeat' (apply bD<;>intro _<;>first|omega|conv=>whnf)
  exact RetK.ff (by rw[<-h3,Q5 hj])
def inS(l:List Str)(x:Str):Bool:=l.any fun y=>y==x
theorem Y1(l:List Str)(x:Str):SpecP prog 27 [eStrs l,.str x] (fun r=>r=.bool (inS l x)):=by
 refine sB Q4 func27 rfl call27 ?_;conv=>whnf
 repeat' (refine iM fun _=>?_;conv=>whnf)
 have hl:(l.map AV.str).length=l.length:=q7f _;refine LoopK.inv QK (fun j:Nat=>⟨[(0,.p (eStrs l)),(1,.p (.str x)),(7,.p (.int .i64 (l.map AV.str).length)),(8,.p (.int .i64 j))],[]⟩) (fun j=>j<=l.length/\(l.drop j).any (fun y=>y==x)=inS l x) (fun j=>l.length-j) 0 (Le.of_eq rfl) ⟨q7c _,rfl⟩ ?_;rintro j ⟨h2,h3⟩;rcases q7e j l.length with hj|hj
 ·conv=>whnf
  repeat' (first|((first|(refine iA fun _=>?_)|refine wI ?_);conv=>whnf)|(apply bD<;>intro _<;>first|omega|conv=>whnf)|(apply bB<;>intro _<;>conv=>whnf))
  ·exact RetK.tt (by rw[<-h3,G9 hj (by assumption)])
  ·exact⟨j+1,⟨hj,by rw[Yi hj (by assumption)];exact h3⟩,by omega,Le.of_eq rfl⟩
 ·conv=>whnf
  repeat' (apply bD<;>intro _<;>first|omega|conv=>whnf)
  exact RetK.ff (by rw[<-h3,Q5 hj])
def ZL(p:Pg)(n:Int):Str:=match p.procs[(F9 n p.procs.length).toNat]?with
 |some f=>f.name
 |none=>[]
theorem PS(p:Pg)(n:Int)(hp:p.procs.length<=20000):SpecP prog 20 [.agg p.cells,.int .i64 n] (fun r=>r=.str (ZL p n)):=by
 refine sB HM func20 rfl call20 ?_;conv=>whnf
 have hl:(p.procs.map fun f=>AV.agg f.cells).length=p.procs.length:=q7f _;have hr:=fun h:0<(p.procs.length:Int)=>ML (n:=n) h;repeat' (first|((first|(refine iM fun _=>?_)|refine dA ?_|(refine CallK.pure (GO n (p.procs.length:Int) (by omega)) (.cons (Sub.refl _) (.cons (Sub.int (by omega)) .nil)) ?_;rintro _ rfl));conv=>whnf)|(apply bD<;>intro _<;>first|omega|conv=>whnf))
 ·refine RetK.p ?_;have h0:p.procs=[]:=x2h.1 (by omega);unfold ZL;rw[h0];rfl
 ·obtain⟨h1,h2⟩:=hr (by omega);have hlt:(F9 n p.procs.length).toNat<p.procs.length:=by omega
  refine IdxK.at (k:=(F9 n p.procs.length).toNat) (e:=.agg p.procs[(F9 n p.procs.length).toNat].cells) (by omega) (by rw[q7l,q7g hlt];rfl) rfl ?_;conv=>whnf
  skip
  exact RetK.p (by unfold ZL;rw[q7g hlt])
def Oe(a b:Int):Bool:=bif decide (a = -1)||decide (b = -1)then decide (b = -1) && !decide (a = -1)else decide (a<b)
theorem PT(a b:Int):SpecP prog 54 [.int .i64 a,.int .i64 b] (fun r=>r=.bool (Oe a b)):=by
 refine sB HN func54 rfl call54 ?_;conv=>whnf
 repeat' (apply bD<;>intro _<;>first|omega|conv=>whnf)
 all_goals first
  |exact RetK.bool (by unfold Oe;simp_all)
  |exact RetK.ff (by unfold Oe;simp_all)
  |exact RetK.bool (by unfold Oe;simp_all;omega)
theorem Ux{α β:Type}{f:α->β}:∀{l:List α},(l.map f).Nodup->∀a∈l,∀b∈l,f a=f b->a=b
 |[],_,a,ha,_,_,_=>by cases ha
 | c::r,h,a,ha,b,hb,e=>by
   rw[q8f,q9v]at h;rcases q7r.1 ha with ha1|ha1
   ·rcases q7r.1 hb with hb1|hb1
    ·rw[ha1,hb1]
    ·exact(h.1 (q7s.2 ⟨b,hb1,by rw[<-e,ha1]⟩)).elim
   ·rcases q7r.1 hb with hb1|hb1
    ·exact(h.1 (q7s.2 ⟨a,ha1,by rw[e,hb1]⟩)).elim
    ·exact Ux h.2 a ha1 b hb1 e
theorem FG{α:Type}[DecidableEq α]:∀{l m:List α},l.Nodup->(∀s∈l,s∈m)->l.length<=m.length
 |[],m,_,_=>q7c _
 | a::r,m,h,hs=>by
   rw[q9v]at h;have ha:=hs a q7d;have h1:=FG (m:=m.erase a) h.2 fun s hsr=>(List.mem_erase_of_ne (fun e=>h.1 (by rw[<-e];exact hsr))).2 (hs s (q7n _ hsr));rw[List.length_erase_of_mem ha]at h1;have:=x3f ha;simp only[q8s];omega
theorem RD(n c:Nat):(Zj n c).Nodup:=by
 unfold Zj Nodup;rw[List.pairwise_map];exact List.Pairwise.imp (fun h e=>h (by omega)) (List.nodup_range' (s:=n+1) (n:=c) (step:=1))
theorem Sa(hm:HY p=true){j:Nat}(hj:p.procs[j]?=some f):(itsOf p j f).map (fun it=>it.s.id)=Zj (QM p.procs j) (QU f.body):=by
 rw[<-SP hm hj,<-MF (j:Nat) 0 (-1) 0 (QM p.procs j) f.body,x1o];rfl
theorem Ib(hm:HY p=true){j:Nat}(hj:p.procs[j]?=some f){a b:Item}(ha:a∈itsOf p j f)(hb:b∈itsOf p j f)(h:a.s.id=b.s.id):a=b:=
 Ux (f:=fun it:Item=>it.s.id) (by rw[Sa hm hj];exact RD _ _) a ha b hb h
theorem Oh{j:Nat}{t:S}(h:t∈flL f.body):∃it∈itsOf p j f,it.s=t:=by
 rw[<-MF (j:Nat) 0 (-1) 0 (QM p.procs j) f.body]at h;obtain⟨it,h1,h2⟩:=q7s.1 h;exact⟨it,h1,h2⟩
theorem Eu{l:List Step}(h:l.Pairwise Qg):l.Nodup:=h.imp fun h e=>by subst e;exact GK h
theorem Gl{x:Int}:Pu l x=true↔x∈l:=by
 unfold Pu;rw[q9c];refine⟨fun⟨y,h1,h2⟩=>by simp at h2;exact h2▸h1,fun h=>⟨x,h,by simp⟩⟩
theorem Ma{n c:Nat}{a:Int}(h1:(n:Int)+1<=a)(h2:a<=(n+c:Nat)):a∈Zj n c:=by
 unfold Zj;refine q7s.2 ⟨a.toNat,List.mem_range'.2 ⟨a.toNat-(n+1),by omega,by omega⟩,by omega⟩
inductive Rch{α:Type}(R:α->α->Prop)(a:α):α->Prop
 |refl:Rch R a a
 |tail {b c:α} (h:Rch R a b) (hr:R b c):Rch R a c
theorem Rch.trans{α:Type}{R:α->α->Prop}{a b c:α}(h:Rch R a b)(h':Rch R b c):Rch R a c:=by
 induction h' with
 |refl=>exact h
 |tail _ hr ih=>exact .tail ih hr
theorem Rch.head{α:Type}{R:α->α->Prop}{a b c:α}(hr:R a b)(h:Rch R b c):Rch R a c:=Rch.trans (.tail .refl hr) h
theorem Rch.mono{α:Type}{R R':α->α->Prop}(h:∀x y,R x y->R' x y){a b:α}(hr:Rch R a b):Rch R' a b:=by
 induction hr with
 |refl=>exact .refl
 |tail _ hr ih=>exact .tail ih (h _ _ hr)
theorem Rch.closed{α:Type}{R:α->α->Prop}{S:α->Prop}(hS:∀x y,S x->R x y->S y){a b:α}(ha:S a)(h:Rch R a b):S b:=by
 induction h with
 |refl=>exact ha
 |tail _ hr ih=>exact hS _ _ ih hr
structure WkM(n:Nat)(st:List Bool×List Int):Prop where
 inv:wkInv n st
 mem:∀x,x∈st.2↔(0<=x/\x<n)/\st.1.getD x.toNat false=true
theorem WkM.start(n:Nat):WkM n (List.replicate n false,[]):=⟨PC n,fun x=>by
 simp only[List.not_mem_nil,false_iff,not_and];intro _;rw[q7h,q8l];split<;>simp⟩
theorem WkM.see{n:Nat}{st:List Bool×List Int}(h:WkM n st){b:Int}(hb:0<=b/\b<n):WkM n (JS st b)/\(∀x,x∈(JS st b).2↔x∈st.2\/x=b)/\st.2 <+: (JS st b).2:=by
 have hi:=LX h.inv hb;cases hs:st.1.getD b.toNat false with
 | true=>
   have e:JS st b=st:=by unfold JS;rw[hs];rfl
   rw[e];refine⟨h,fun x=>⟨.inl,fun hx=>?_⟩,List.prefix_refl _⟩;rcases hx with hx|rfl
   ·exact hx
   ·exact(h.mem _).2 ⟨hb,hs⟩
 | false=>
   have e:JS st b=(st.1.set b.toNat true,st.2++[b]):=by unfold JS;rw[hs];rfl
   rw[e]at hi⊢;have hlen:=h.inv.1;refine⟨⟨hi,fun x=>?_⟩,fun x=>by simp,List.prefix_append _ _⟩;rw[q7a,q7m,h.mem];simp only[q7h,x2g];by_cases hx:x=b
   ·subst hx;rw[if_pos rfl,if_pos (by omega)];simp[hb]
   ·constructor
    ·rintro(⟨h1,h2⟩|h2)
     ·refine⟨h1,?_⟩;rw[if_neg (by omega)];exact h2
     ·exact absurd h2 hx
    ·rintro⟨h1,h2⟩;rw[if_neg (by omega)]at h2;exact .inl ⟨h1,h2⟩
theorem WkM.fold{n:Nat}:∀(l:List Int){st:List Bool×List Int},WkM n st->(∀b∈l,0<=b/\b<n)->WkM n (l.foldl JS st)/\(∀x,x∈(l.foldl JS st).2↔x∈st.2\/x∈l)/\st.2 <+: (l.foldl JS st).2
 |[],st,h,_=>⟨h,fun x=>by simp,List.prefix_refl _⟩
 | b::r,st,h,hl=>by
   obtain⟨h1,h2,h3⟩:=h.see (hl b q7d);obtain⟨h4,h5,h6⟩:=WkM.fold r h1 fun c hc=>hl c (q7n _ hc);refine⟨h4,fun x=>?_,h3.trans h6⟩;rw[x0s,h5,h2,q7r,or_assoc]
def Hj(rows:List (List Int))(x y:Int):Prop:=y∈rows.getD x.toNat []
theorem FP{n:Nat}{rows:List (List Int)}(hr:XG n rows){x y:Int}(h:Hj rows x y):0<=y/\y<n:=by
 unfold Hj at h;rw[q7h]at h;cases hq:rows[x.toNat]?with
 |none=>rw[hq]at h;simp at h
 |some r=>rw[hq]at h;exact hr.2 r (q8u hq) y h
theorem Je{α:Type}{l m:List α}(h:l <+: m){i:Nat}{a:α}(ha:l[i]?=some a):m[i]?=some a:=by
 obtain⟨t,rfl⟩:=h;rw[q9g (q7t.1 ha).1];exact ha
theorem Y0{n:Nat}{rows:List (List Int)}(hr:XG n rows):∀(k i:Nat){st:List Bool×List Int},WkM n st->i<=st.2.length->n+1<=k+i->(∀(m:Nat)(a:Int),m<i->st.2[m]?=some a->∀b,Hj rows a b->b∈st.2)->
  WkM n (ZW rows k i st)/\(∀x∈st.2,x∈(ZW rows k i st).2)/\(∀x∈(ZW rows k i st).2,∀b,Hj rows x b->b∈(ZW rows k i st).2)/\(∀S:Int->Prop,(∀x∈st.2,S x)->(∀x b,S x->Hj rows x b->S b)->∀x∈(ZW rows k i st).2,S x)
 | 0,i,st,h,hi,hk,_=>by
   have:=FA h.inv;omega
 | k+1,i,st,h,hi,hk,hc=>by
   rw[ZW];split
   ·rename_i a ha;have hlt:=(q7t.1 ha).1;have hrow:∀b∈rows.getD a.toNat [],0<=b/\b<n:=fun b hb=>FP hr hb;obtain⟨h1,h2,h3⟩:=h.fold (rows.getD a.toNat []) hrow;obtain⟨h4,h5,h6,h7⟩:=Y0 hr k (i+1) h1 (q8i hlt h3.length_le) (by omega) fun m c hm hmc b hb=>by
     rw[h2];rcases q7e m i with hmi|hmi
     ·have hml:m<st.2.length:=by omega
      have hmc':st.2[m]?=some c:=by
       have:=Je h3 (q7g hml);rw[q7g hml,<-this,hmc]
      exact .inl (hc m c hmi hmc' b hb)
     ·obtain rfl:m=i:=by omega
      have:=Je h3 ha;rw[this]at hmc;cases hmc;exact .inr hb
    refine⟨h4,fun x hx=>h5 x ((h2 x).2 (.inl hx)),h6,fun S hS hcl=>h7 S (fun x hx=>?_) hcl⟩;rcases(h2 x).1 hx with hx|hx
    ·exact hS x hx
    ·exact hcl a x (hS a (q8u ha)) hx
   ·rename_i ha;have hlen:st.2.length<=i:=List.getElem?_eq_none_iff.1 ha;refine⟨h,fun x hx=>hx,fun x hx b hb=>?_,fun S hS _=>hS⟩;obtain⟨m,hm⟩:=x0g.1 hx;exact hc m x (by have:=(q7t.1 hm).1;omega) hm b hb
theorem X1{n:Nat}:∀(l:List Int){st:List Bool×List Int},WkM n st->WkM n (l.foldl (fun st a=>bif ZG n a then JS st a else st) st)/\∀x,x∈(l.foldl (fun st a=>bif ZG n a then JS st a else st) st).2↔x∈st.2\/(x∈l/\ZG n x=true)
 |[],st,h=>⟨h,fun x=>by simp⟩
 | a::r,st,h=>by
   rw[x0s];cases hb:ZG n a with
   | true=>
     obtain⟨h1,h2,_⟩:=h.see (XI hb);obtain⟨h3,h4⟩:=X1 r h1;rw[q8g];refine⟨h3,fun x=>?_⟩;rw[h4,h2,q7r];constructor
     ·rintro((h5|rfl)|⟨h5,h6⟩)
      ·exact .inl h5
      ·exact .inr ⟨.inl rfl,hb⟩
      ·exact .inr ⟨.inr h5,h6⟩
     ·rintro(h5|⟨rfl|h5,h6⟩)
      ·exact .inl (.inl h5)
      ·exact .inl (.inr rfl)
      ·exact .inr ⟨h5,h6⟩
   | false=>
     obtain⟨h3,h4⟩:=X1 r h;rw[q8b];refine⟨h3,fun x=>?_⟩;rw[h4,q7r];constructor
     ·rintro(h5|⟨h5,h6⟩)
      ·exact .inl h5
      ·exact .inr ⟨.inr h5,h6⟩
     ·rintro(h5|⟨rfl|h5,h6⟩)
      ·exact .inl h5
      ·rw[hb]at h6;cases h6
      ·exact .inr ⟨h5,h6⟩
theorem Lz:∀(l:List Bool)(i:Nat)(y:Int),y∈HU i l ↔ ∃k:Nat,l[k]?=some true/\y=((i+k:Nat):Int)
 |[],i,y=>by simp[HU]
 | b::r,i,y=>by
   have ih:=Lz r (i+1) y;have key:(∃k:Nat,(b::r)[k]?=some true/\y=((i+k:Nat):Int))↔(b=true/\y=(i:Int))\/∃k:Nat,r[k]?=some true/\y=((i+1+k:Nat):Int):=by
    constructor
    ·rintro⟨k,h1,h2⟩;cases k with
     |zero=>simp at h1;exact .inl ⟨h1,by simpa using h2⟩
     |succ k=>exact .inr ⟨k,by simpa using h1,by rw[h2];omega⟩
    ·rintro(⟨h1,h2⟩|⟨k,h1,h2⟩)
     ·exact⟨0,by simp[h1],by simpa using h2⟩
     ·exact⟨k+1,by simpa using h1,by rw[h2];omega⟩
   rw[key,<-ih,HU];cases b<;>simp
theorem Bn{n:Nat}{rows:List (List Int)}(hr:XG n rows)(l:List Int)(y:Int):y∈HU 0 (ZN rows l) ↔ ∃a∈l,ZG n a=true/\Rch (Hj rows) a y:=by
 obtain⟨h1,h2⟩:=X1 (n:=n) l (WkM.start n);obtain⟨h3,h4,h5,h6⟩:=Y0 hr (rows.length+1) 0 (st:=FM rows.length l) (by rw[hr.1];exact h1) (q7c _) (by rw[hr.1];omega) (fun m a hm=>by omega);have hst:∀x,x∈(FM rows.length l).2↔x∈l/\ZG n x=true:=fun x=>by
  rw[hr.1];unfold FM;rw[h2];simp
 have hmem:∀y,y∈HU 0 (ZN rows l)↔y∈(ZW rows (rows.length+1) 0 (FM rows.length l)).2:=fun y=>by
  rw[Lz,h3.mem];show(∃k:Nat,(ZW rows (rows.length+1) 0 (FM rows.length l)).1[k]?=some true/\_)↔_;constructor
  ·rintro⟨k,h7,h8⟩;have hlt:=(q7t.1 h7).1;rw[h3.inv.1]at hlt;refine⟨by omega,?_⟩;rw[h8,q7h];simp[h7]
  ·rintro⟨h7,h8⟩;have hlt:y.toNat<(ZW rows (rows.length+1) 0 (FM rows.length l)).1.length:=by rw[h3.inv.1];omega
   refine⟨y.toNat,?_,by omega⟩;rw[q7h,q7g hlt]at h8;rw[q7g hlt];simpa using h8
 rw[hmem];constructor
 ·intro hy;refine h6 (fun y=>∃a∈l,ZG n a=true/\Rch (Hj rows) a y) (fun x hx=>?_) (fun x b ⟨a,h7,h8,h9⟩ hb=>⟨a,h7,h8,.tail h9 hb⟩) y hy;obtain⟨h7,h8⟩:=(hst x).1 hx;exact⟨x,h7,h8,.refl⟩
 ·rintro⟨a,h7,h8,h9⟩;exact h9.closed (S:=fun y=>y∈(ZW rows (rows.length+1) 0 (FM rows.length l)).2) (fun x b hx hb=>h5 x hx b hb) (h4 a ((hst a).2 ⟨h7,h8⟩))
theorem L0{b x:Int}:x∈Xc l k b↔x∈l\/x=b:=by
 unfold Xc;rw[q7a,q7r];have:x∈l↔x∈l.take k\/x∈l.drop k:=by rw[<-q7a,List.take_append_drop]
 rw[this];constructor
 ·rintro(h|h|h)
  ·exact .inl (.inl h)
  ·exact .inr h
  ·exact .inl (.inr h)
 ·rintro((h|h)|h)
  ·exact .inl h
  ·exact .inr (.inr h)
  ·exact .inr (.inl h)
theorem Ad{n:Nat}{g:List (List Int)×List (List Int)}(hl:g.1.length=n)(e:Int×Int){x y:Int}(hx:0<=x/\x<n):y∈(F4 n g e).1.getD x.toNat []↔y∈g.1.getD x.toNat []\/((x,y)=e/\ZG n y=true):=by
 rw[Wf];cases hc:(ZG n e.1&&ZG n e.2 && !(g.1.getD e.1.toNat []).contains e.2)with
 | true=>
   simp only[q8j,x0p]at hc;obtain⟨⟨h1,h2⟩,_⟩:=hc;have h3:=XI h1;rw[q8g];unfold Ji;rw[q7h,x2g];by_cases he:e.1.toNat=x.toNat
   ·rw[if_pos he,if_pos (by omega)];simp only[q9j];rw[L0,<-he];have:x=e.1:=by omega
    constructor
    ·rintro(h|h)
     ·exact .inl h
     ·exact .inr ⟨by rw[this,h],by rw[h];exact h2⟩
    ·rintro(h|⟨h,_⟩)
     ·exact .inl h
     ·exact .inr (by rw[<-h])
   ·rw[if_neg he,<-q7h];constructor
    ·exact .inl
    ·rintro(h|⟨h,_⟩)
     ·exact h
     ·exact absurd (by rw[<-h]) he
 | false=>
   rw[q8b];constructor
   ·exact .inl
   ·rintro(h|⟨rfl,h⟩)
    ·exact h
    ·have h1:ZG n x=true:=by unfold ZG;simp[hx]
     simp only[h1,h,Bool.true_and,Bool.not_eq_false']at hc;simpa using hc
theorem M7{n:Nat}{g:List (List Int)×List (List Int)}(hl:g.1.length=n)(e:Int×Int):(F4 n g e).1.length=n:=by
 rw[Wf];cases(ZG n e.1&&ZG n e.2 && !(g.1.getD e.1.toNat []).contains e.2)with
 |true=>rw[q8g];unfold Ji;rw[x0d];exact hl
 |false=>exact hl
theorem Do{n:Nat}{x y:Int}(hx:0<=x/\x<n):∀(l:List (Int×Int)){g:List (List Int)×List (List Int)},g.1.length=n->(y∈(l.foldl (F4 n) g).1.getD x.toNat []↔y∈g.1.getD x.toNat []\/((x,y)∈l/\ZG n y=true))
 |[],g,_=>by simp
 | e::r,g,h=>by
   rw[x0s,Do hx r (M7 h e),Ad h e hx,q7r];constructor
   ·rintro((h1|⟨h1,h2⟩)|⟨h1,h2⟩)
    ·exact .inl h1
    ·exact .inr ⟨.inl h1,h2⟩
    ·exact .inr ⟨.inr h1,h2⟩
   ·rintro(h1|⟨h1|h1,h2⟩)
    ·exact .inl (.inl h1)
    ·exact .inl (.inr ⟨h1,h2⟩)
    ·exact .inr ⟨h1,h2⟩
theorem DJ{n:Nat}{l:List (Int×Int)}{x y:Int}(hx:0<=x/\x<n):Hj (QC n l).1 x y↔(x,y)∈l/\ZG n y=true:=by
 unfold Hj QC;rw[Do hx l (by simp)];have:(List.replicate n ([]:List Int)).getD x.toNat []=[]:=by
  rw[q7h,q8l];split<;>rfl
 rw[this];simp
theorem Vb{n:Nat}{l:List (Int×Int)}(h0:0<n)(y:Int):y∈HU 0 (ZN (QC n l).1 [0])↔Rch (fun a b=>(a,b)∈l/\ZG n b=true) 0 y:=by
 rw[Bn (YS n l).1];have hs:ZG n 0=true:=by unfold ZG;simp;omega
 constructor
 ·rintro⟨a,ha,_,h⟩;obtain rfl:a=0:=by simpa using ha
  exact(h.closed (S:=fun x:Int=>(0<=x/\x<n)/\Rch (fun a b=>(a,b)∈l/\ZG n b=true) 0 x) (fun x y ⟨h1,h2⟩ h3=>by
   have h4:=(DJ h1).1 h3;exact⟨XI h4.2,.tail h2 h4⟩) ⟨⟨by omega,by omega⟩,.refl⟩).2
 ·intro h;refine⟨0,by simp,hs,?_⟩;exact(h.closed (S:=fun x:Int=>(0<=x/\x<n)/\Rch (Hj (QC n l).1) 0 x) (fun x y ⟨h1,h2⟩ h3=>⟨XI h3.2,.tail h2 ((DJ h1).2 h3)⟩) ⟨⟨by omega,by omega⟩,.refl⟩).2
def stR(F:List Step)(a b:Int):Prop:=∃s∈F,s.src=a/\s.dst=b
def plP(p:Pg)(j:Nat)(f:Pr)(x:Int):Prop:=x=0\/x = -1\/((QM p.procs j:Int)+1<=x/\x<=(QM p.procs j+QU f.body:Nat))
def ixI(p:Pg)(j:Nat)(f:Pr)(x:Int):Int:=UZ (loI p j) (hiI p j f) (QU f.body+2:Nat) x
theorem ZA{j:Nat}{x:Int}(h:plP p j f x):0<=ixI p j f x/\ixI p j f x<(QU f.body+2:Nat):=by
 unfold ixI UZ loI hiI;unfold plP at h
 (repeat' split)<;>omega
theorem BJ{j:Nat}{x y:Int}(hx:plP p j f x)(hy:plP p j f y)(h:ixI p j f x=ixI p j f y):x=y:=by
 unfold ixI UZ loI hiI at h;unfold plP at hx hy
 (repeat' split at h)<;>omega
theorem Tb{j:Nat}{F:List Step}(hF:∀s∈F,plP p j f s.src/\plP p j f s.dst){y:Int}(hy:plP p j f y):
  ixI p j f y∈HU 0 (ZN (QC (QU f.body+2) (F.map (ixP p j f (QU f.body+2:Nat)))).1 [0])↔Rch (stR F) 0 y:=by
 rw[Vb (by omega)];have e0:ixI p j f 0=0:=by unfold ixI UZ;rw[if_pos rfl]
 have p0:plP p j f 0:=.inl rfl;constructor
 ·intro h;obtain⟨z,h1,h2,h3⟩:=h.closed (S:=fun i=>∃z,plP p j f z/\ixI p j f z=i/\Rch (stR F) 0 z) (by
   rintro a b ⟨z,h1,h2,h3⟩ ⟨h4,_⟩;obtain⟨s,hs,he⟩:=q7s.1 h4;obtain⟨h5,h6⟩:=hF s hs;have e1:ixI p j f s.src=a:=q9e Prod.fst he;have e2:ixI p j f s.dst=b:=q9e Prod.snd he;have e3:s.src=z:=BJ h5 h1 (by rw[e1,h2]);exact⟨s.dst,h6,e2,.tail h3 ⟨s,hs,e3,rfl⟩⟩) ⟨0,p0,e0,.refl⟩
  rw[<-BJ h1 hy h2];exact h3
 ·intro h;have:=h.closed (S:=fun z=>plP p j f z/\Rch (fun a b=>(a,b)∈F.map (ixP p j f (QU f.body+2:Nat))/\ZG (QU f.body+2) b=true) 0 (ixI p j f z)) (by
   rintro a b ⟨h1,h2⟩ ⟨s,hs,rfl,rfl⟩;obtain⟨h5,h6⟩:=hF s hs;refine⟨h6,.tail h2 ⟨q7s.2 ⟨s,hs,rfl⟩,?_⟩⟩;have:=ZA h6;unfold ZG;simp only[q8j,q8e];exact this) ⟨p0,by rw[e0];exact .refl⟩
  exact this.2
theorem WO(h:QO p=true){j:Nat}(hj:p.procs[j]?=some f):∀s∈(QQ p j f).real,plP p j f s.src/\plP p j f s.dst:=fun s hs=>by
 obtain⟨_,h2⟩:=KS h hj;obtain⟨_,h3,_⟩:=Q7 h hj;obtain⟨h4,h5⟩:=h3 s ((h2 s).1 hs);unfold okI at h5;unfold plP;omega
theorem Ry{l:List Str}(h:ZH l=false):l.Nodup:=by
 unfold ZH at h;rw[x2e]at h;unfold Nodup;rw[x2v];intro i j hi hj hij he;have h1:=h j (q9q.2 hj);apply h1;rw[q9c];refine⟨l[i],?_,?_⟩
 ·exact x0w.2 ⟨i,by simp;omega,by simp⟩
 ·rw[q7g hj];simp[he]
theorem U6(h:QO p=true):(procsN p).Nodup:=by
 obtain⟨hm,hs,_⟩:=QD h;unfold XZ at hs;rw[hm,q8g]at hs;cases hb:ZD p with
 |true=>rw[hb]at hs;cases hs
 | false=>
   unfold ZD at hb;simp only[x2y]at hb;exact Ry hb.2.1
theorem Ln(h:QO p=true){j:Nat}{g:Pr}(hj:p.procs[j]?=some f)(hk:p.procs[k]?=some g)(he:f.name=g.name):j=k/\f=g:=by
 have hn:=U6 h;have h1:(procsN p)[j]?=some f.name:=by simp[procsN,hj]
 have h2:(procsN p)[k]?=some g.name:=by simp[procsN,hk]
 rw[he]at h1;have hjl:=(q7t.1 h1).1;obtain rfl:j=k:=(List.getElem?_inj hjl hn).1 (h1.trans h2.symm);rw[hj]at hk;exact⟨rfl,x0m hk⟩
theorem S6{E:Int->Int->Prop}{B:List Int}{u x:Int}(h:Rch E u x)(hu:u∈B)(hx:x∉B):∃z y,z∈B/\E z y/\y∉B/\Rch E u y/\Rch E y x:=by
 induction h with
 |refl=>exact absurd hu hx
 | @tail b c h hr ih=>
   by_cases hb:b∈B
   ·exact⟨b,c,hb,hr,hx,.tail h hr,.refl⟩
   ·obtain⟨z,y,h1,h2,h3,h4,h5⟩:=ih hb;exact⟨z,y,h1,h2,h3,h4,.tail h5 hr⟩
def chainE(E:Int->Int->Prop):List Int->Prop
 |[]=>True
 |[_]=>True
 |a::b::r=>E a b/\chainE E (b::r)
theorem BO{E:Int->Int->Prop}:∀(l:List Int){a y:Int},chainE E (l++[a])->y∈l++[a]->Rch E y a
 | [],a,y,_,hy=>by
   simp at hy;rw[hy];exact .refl
 | [b],a,y,h,hy=>by
   simp at hy;rcases hy with rfl|rfl
   ·exact .tail .refl h.1
   ·exact .refl
 | b::c::r,a,y,h,hy=>by
   have h1:chainE E ((c::r)++[a]):=h.2;rcases q7r.1 hy with rfl|hy
   ·exact .head h.1 (BO (c::r) h1 (by simp))
   ·exact BO (c::r) h1 hy
theorem Wo{E:Int->Int->Prop}:∀(l:List Int){a b:Int},chainE E (l++[a])->E a b->chainE E (l++[a]++[b])
 |[],a,b,_,hb=>⟨hb,trivial⟩
 |[c],a,b,h,hb=>⟨h.1,hb,trivial⟩
 |c::d::r,a,b,h,hb=>⟨h.1,Wo (d::r) h.2 hb⟩
theorem J3{E:Int->Int->Prop}:∀(l:List Int){a:Int},chainE E (l++[a])->chainE E l
 |[],_,_=>trivial
 |[_],_,_=>trivial
 |c::d::r,_,h=>⟨h.1,J3 (d::r) h.2⟩
structure DfsI(n:Nat)(E:Int->Int->Prop)(out stack:List Int):Prop where
 nd:(out++stack).Nodup
 rng:∀x∈out++stack,0<=x/\x<n
 path:chainE E stack
 cl:∀u∈out,∀v,E u v->v∈out\/v∈stack
 J:∀u∈out,∀x,Rch E u x->x∉out->∃s∈stack,Rch E u s/\Rch E s u/\Rch E s x
 K:∀(i:Nat)(r:Int),out[i]?=some r->∀u,Rch E u r->Rch E r u\/∃u',Rch E u u'/\Rch E u' u/\(u'∉out\/∃j,i<j/\out[j]?=some u')
theorem DfsI.start(n:Nat)(E:Int->Int->Prop):DfsI n E [] []:=⟨by simp,by simp,trivial,by simp,by simp,by simp⟩
theorem DfsI.push{n:Nat}{E:Int->Int->Prop}{out stack:List Int}(h:DfsI n E out stack){b:Int}(hb:0<=b/\b<n)(hn:b∉out++stack)(hp:chainE E (stack++[b])):DfsI n E out (stack++[b]):=by
 refine⟨?_,fun x hx=>?_,hp,fun u hu v hv=>?_,fun u hu x hx hxo=>?_,h.K⟩
 ·rw[<-q8d,x0x];refine⟨h.nd,by simp,fun x hx y hy=>?_⟩;rw[q7m.1 hy];exact fun e=>hn (e▸hx)
 ·rw[<-q8d]at hx;rcases q7a.1 hx with hx|hx
  ·exact h.rng x hx
  ·rw[q7m.1 hx];exact hb
 ·rcases h.cl u hu v hv with h1|h1
  ·exact .inl h1
  ·exact .inr (q7a.2 (.inl h1))
 ·obtain⟨s,h1,h2⟩:=h.J u hu x hx hxo;exact⟨s,q7a.2 (.inl h1),h2⟩
theorem DfsI.pop{n:Nat}{E:Int->Int->Prop}{out st:List Int}{a:Int}(h:DfsI n E out (st++[a]))(ha:∀v,E a v->v∈out\/v∈st++[a]):DfsI n E (out++[a]) st:=by
 have hnd:=h.nd;rw[x0x]at hnd;obtain⟨hn1,hn2,hn3⟩:=hnd;rw[x0x]at hn2;obtain⟨hn4,_,hn5⟩:=hn2;have hao:a∉out:=fun hm=>hn3 a hm a (by simp) rfl;have hast:a∉st:=fun hm=>hn5 a hm a (by simp) rfl;have hcl:∀u∈out++[a],∀v,E u v->v∈out++[a]\/v∈st:=fun u hu v hv=>by
  have:v∈out\/v∈st++[a]:=by
   rcases q7a.1 hu with hu|hu
   ·exact h.cl u hu v hv
   ·rw[q7m.1 hu]at hv;exact ha v hv
  rcases this with h1|h1
  ·exact .inl (q7a.2 (.inl h1))
  ·rcases q7a.1 h1 with h1|h1
   ·exact .inr h1
   ·exact .inl (q7a.2 (.inr h1))
 have hfst:∀u∈out++[a],∀x,Rch E u x->x∉out++[a]->∃y∈st,Rch E u y/\Rch E y x:=fun u hu x hx hxo=>by
  obtain⟨z,y,h1,h2,h3,h4,h5⟩:=S6 hx hu hxo;rcases hcl z h1 y h2 with h6|h6
  ·exact absurd h6 h3
  ·exact⟨y,h6,h4,h5⟩
 have hya:∀y∈st,Rch E y a:=fun y hy=>BO st h.path (q7a.2 (.inl hy));refine⟨?_,fun x hx=>?_,J3 st h.path,hcl,fun u hu x hx hxo=>?_,fun i r hi u hu=>?_⟩
 ·rw[q8d,x0x];refine⟨hn1,?_,fun x hx y hy=>hn3 x hx y (by simp at hy⊢;exact hy.symm)⟩;rw[x0x];refine⟨by simp,hn4,fun x hx y hy e=>?_⟩;rw[q7m.1 hx]at e;exact hast (e▸hy)
 ·refine h.rng x ?_;simp only[q7a,q7m]at hx⊢;rcases hx with(h1|h1)|h1
  ·exact .inl h1
  ·exact .inr (.inr h1)
  ·exact .inr (.inl h1)
 ·obtain⟨y,h1,h2,h3⟩:=hfst u hu x hx hxo;rcases q7a.1 hu with hu|hu
  ·have hyo:y∉out:=fun hm=>hn3 y hm y (q7a.2 (.inl h1)) rfl;obtain⟨s,h4,h5,h6,h7⟩:=h.J u hu y h2 hyo;rcases q7a.1 h4 with h4|h4
   ·exact⟨s,h4,h5,h6,h7.trans h3⟩
   ·rw[q7m.1 h4]at h5 h6;exact⟨y,h1,h2,(hya y h1).trans h6,h3⟩
  ·rw[q7m.1 hu]at h2⊢;exact⟨y,h1,h2,hya y h1,h3⟩
 ·rcases q7e i out.length with hil|hil
  ·rw [q9g hil]at hi;rcases h.K i r hi u hu with h1|⟨u',h1,h2,h3⟩
   ·exact .inl h1
   ·refine .inr ⟨u',h1,h2,?_⟩;rcases h3 with h3|⟨j,h3,h4⟩
    ·by_cases hua:u'=a
     ·exact .inr ⟨out.length,hil,by rw[hua];simp⟩
     ·exact .inl fun hm=>by
       rcases q7a.1 hm with hm|hm
       ·exact h3 hm
       ·exact hua (q7m.1 hm)
    ·exact .inr ⟨j,h3,by rw[q9g (q7t.1 h4).1];exact h4⟩
  ·have hr:r=a:=by
    have h1:=(q7t.1 hi).1;simp at h1;rw[q9w hil,show i-out.length=0 by omega]at hi;simpa using hi.symm
   subst hr;by_cases hau:Rch E r u
   ·exact .inl hau
   ·right;by_cases huo:u∈out
    ·obtain⟨s,h4,h5,h6,h7⟩:=h.J u huo r hu hao;rcases q7a.1 h4 with h4|h4
     ·refine⟨s,h5,h6,.inl fun hm=>?_⟩;rcases q7a.1 hm with hm|hm
      ·exact hn3 s hm s (q7a.2 (.inl h4)) rfl
      ·rw[q7m.1 hm]at h4;exact hast h4
     ·rw[q7m.1 h4]at h6;exact absurd h6 hau
    ·refine⟨u,.refl,.refl,.inl fun hm=>?_⟩;rcases q7a.1 hm with hm|hm
     ·exact huo hm
     ·rw[q7m.1 hm]at hau;exact hau .refl
structure EndsP(n:Nat)(E:Int->Int->Prop)(es:List Int):Prop where
 nd:es.Nodup
 mem:∀x:Int,x∈es↔0<=x/\x<n
 K:∀(i:Nat)(r:Int),es[i]?=some r->∀u:Int,0<=u/\u<n->Rch E u r->Rch E r u\/∃u',Rch E u u'/\Rch E u' u/\∃j,i<j/\es[j]?=some u'
theorem DfsI.fin{n:Nat}{E:Int->Int->Prop}(hE:∀x y,E x y->0<=y/\y<n){out:List Int}(h:DfsI n E out [])(hall:∀x:Int,0<=x/\x<n->x∈out):EndsP n E out:=by
 refine⟨by simpa using h.nd,fun x=>⟨fun hx=>h.rng x (by simpa using hx),hall x⟩,fun i r hi u hur hu=>?_⟩;rcases h.K i r hi u hu with h1|⟨u',h1,h2,h3⟩
 ·exact .inl h1
 ·refine .inr ⟨u',h1,h2,?_⟩;rcases h3 with h3|h3
  ·exfalso;apply h3;apply hall;cases h1 with
   |refl=>exact hur
   |tail _ hr=>exact hE _ _ hr
  ·exact h3
def sccP(E:Int->Int->Prop)(x y:Int):Prop:=Rch E x y/\Rch E y x
theorem sccP.refl{E:Int->Int->Prop}(x:Int):sccP E x x:=⟨.refl,.refl⟩
theorem sccP.symm{E:Int->Int->Prop}{x y:Int}(h:sccP E x y):sccP E y x:=⟨h.2,h.1⟩
theorem sccP.trans{E:Int->Int->Prop}{x y z:Int}(h:sccP E x y)(h':sccP E y z):sccP E x z:=⟨h.1.trans h'.1,h'.2.trans h.2⟩
def SeenP(E:Int->Int->Prop)(es:List Int)(i:Nat)(x:Int):Prop:=∃(j:Nat) (y:Int),i<=j/\es[j]?=some y/\sccP E x y
theorem TN{n:Nat}{E:Int->Int->Prop}(hE:∀x y,E x y->(0<=x/\x<n)/\0<=y/\y<n){es:List Int}(h:EndsP n E es){i:Nat}{r:Int}(hi:es[i]?=some r)(hr:¬SeenP E es (i+1) r)(x:Int):
  Rch (fun a b=>E b a/\¬SeenP E es (i+1) b) r x↔sccP E r x:=by
 have hrr:=(h.mem r).1 (q8u hi);constructor
 ·intro hx;have key:(0<=x/\x<n)/\¬SeenP E es (i+1) x/\Rch E x r:=hx.closed (S:=fun x:Int=>(0<=x/\x<n)/\¬SeenP E es (i+1) x/\Rch E x r) (fun a b ⟨h1,h2,h3⟩ ⟨h4,h5⟩=>⟨(hE _ _ h4).1,h5,.head h4 h3⟩) ⟨hrr,hr,.refl⟩;refine⟨?_,key.2.2⟩;rcases h.K i r hi x key.1 key.2.2 with h1|⟨u',h1,h2,j,h3,h4⟩
  ·exact h1
  ·exact absurd ⟨j,u',h3,h4,h1,h2⟩ key.2.1
 ·rintro⟨h1,h2⟩;have hns:∀y,sccP E r y->¬SeenP E es (i+1) y:=fun y hy ⟨j,z,h3,h4,h5⟩=>hr ⟨j,z,h3,h4,hy.trans h5⟩;have key:∀{a b:Int},Rch E a b->Rch E r a->Rch E b r->Rch (fun a b=>E b a/\¬SeenP E es (i+1) b) b a:=fun {a b} hab=>by
   induction hab with
   |refl=>intro _ _;exact .refl
   | @tail b c hab hbc ih=>
     intro h3 h4;have h5:Rch E b r:=.head hbc h4;exact .head ⟨hbc,hns b ⟨h3.trans hab,h5⟩⟩ (ih h3 h5)
  exact key h2 h1 .refl
theorem Ck{E:Int->Int->Prop}{es:List Int}{i:Nat}{r:Int}(hi:es[i]?=some r)(hr:SeenP E es (i+1) r)(x:Int):SeenP E es i x↔SeenP E es (i+1) x:=by
 constructor
 ·rintro⟨j,y,h1,h2,h3⟩;rcases Nat.eq_or_lt_of_le h1 with h4|h4
  ·subst h4;rw[hi]at h2;cases h2;obtain⟨k,z,h5,h6,h7⟩:=hr;exact⟨k,z,h5,h6,h3.trans h7⟩
  ·exact⟨j,y,h4,h2,h3⟩
 ·rintro⟨j,y,h1,h2,h3⟩;exact⟨j,y,by omega,h2,h3⟩
theorem Ba{E:Int->Int->Prop}{es:List Int}{i:Nat}{r:Int}(hi:es[i]?=some r)(x:Int):SeenP E es i x↔SeenP E es (i+1) x\/sccP E r x:=by
 constructor
 ·rintro⟨j,y,h1,h2,h3⟩;rcases Nat.eq_or_lt_of_le h1 with h4|h4
  ·subst h4;rw[hi]at h2;cases h2;exact .inr h3.symm
  ·exact .inl ⟨j,y,h4,h2,h3⟩
 ·rintro(⟨j,y,h1,h2,h3⟩|h)
  ·exact⟨j,y,by omega,h2,h3⟩
  ·exact⟨i,r,q8z _,hi,h.symm⟩
theorem EH{n:Nat}{E:Int->Int->Prop}{es:List Int}(h:EndsP n E es){x:Int}(hx:0<=x/\x<n):SeenP E es 0 x:=by
 obtain⟨j,hj⟩:=x0g.1 ((h.mem x).2 hx);exact⟨j,x,q7c _,hj,.refl x⟩
def rowE(rows:List (List Int))(x y:Int):Prop:=0<=x/\Hj rows x y
structure EndI(n:Nat)(rows:List (List Int))(out stack:List Int)(seen:List Bool)(at_:List Int):Prop where
 dfs:DfsI n (rowE rows) out stack
 sl:seen.length=n
 al:at_.length=n
 seen:∀x:Int,0<=x/\x<n->(seen.getD x.toNat false=true↔x∈out++stack)
 arng:∀x:Int,0<=x/\x<n->0<=at_.getD x.toNat 0/\at_.getD x.toNat 0<=(rows.getD x.toNat []).length
 cur:∀x:Int,0<=x/\x<n->∀(i:Nat)(y:Int),(i:Int)<at_.getD x.toNat 0->(rows.getD x.toNat [])[i]?=some y->y∈out++stack
theorem EndI.start(n:Nat)(rows:List (List Int)):EndI n rows [] [] (List.replicate n false) (List.replicate n 0):=by
 have h0:∀x:Int,(List.replicate n (0:Int)).getD x.toNat 0=0:=fun x=>by
  rw[q7h,q8l];split<;>rfl
 refine⟨DfsI.start n _,by simp,by simp,fun x hx=>?_,fun x hx=>by rw[h0];omega,fun x hx i y hi=>by rw[h0]at hi;omega⟩;rw[q7h,q8l];split<;>simp
theorem ZU{α:Type}{l:List α}{i j:Nat}{a d:α}(hi:i<l.length):(l.set i a).getD j d=if i=j then a else l.getD j d:=by
 simp only[q7h,x2g];split
 ·rename_i h;first
   |rfl
   |(rw[if_pos hi];rfl)
 ·rfl
theorem EndI.push{n:Nat}{rows:List (List Int)}{out stack:List Int}{seen:List Bool}{at_:List Int}(h:EndI n rows out stack seen at_){b:Int}(hb:0<=b/\b<n)(hn:seen.getD b.toNat false=false)(hp:chainE (rowE rows) (stack++[b])):EndI n rows out (stack++[b]) (seen.set b.toNat true) at_:=by
 have hno:b∉out++stack:=fun hm=>by rw[(h.seen b hb).2 hm]at hn;cases hn
 refine⟨h.dfs.push hb hno hp,by simpa using h.sl,h.al,fun x hx=>?_,h.arng,fun x hx i y hi hy=>?_⟩
 ·rw[ZU (by rw[h.sl];omega),<-q8d,q7a,q7m];split
  ·have:x=b:=by omega
   simp[this]
  ·have:x≠b:=by omega
   rw[h.seen x hx];simp[this]
 ·rw[<-q8d];exact q7a.2 (.inl (h.cur x hx i y hi hy))
theorem EndI.pop{n:Nat}{rows:List (List Int)}{out st:List Int}{a:Int}{seen:List Bool}{at_:List Int}(h:EndI n rows out (st++[a]) seen at_)(ha:at_.getD a.toNat 0=(rows.getD a.toNat []).length):EndI n rows (out++[a]) st seen at_:=by
 have hr:=h.dfs.rng a (by simp);have hsw:∀x:Int,x∈out++[a]++st↔x∈out++(st++[a]):=fun x=>by
  simp only[q7a,q7m];constructor
  ·rintro((h1|h1)|h1)
   ·exact .inl h1
   ·exact .inr (.inr h1)
   ·exact .inr (.inl h1)
  ·rintro(h1|h1|h1)
   ·exact .inl (.inl h1)
   ·exact .inr h1
   ·exact .inl (.inr h1)
 refine⟨h.dfs.pop fun v hv=>?_,h.sl,h.al,fun x hx=>by rw[h.seen x hx,hsw],h.arng,fun x hx i y hi hy=>(hsw y).2 (h.cur x hx i y hi hy)⟩;obtain⟨i,hi⟩:=x0g.1 hv.2;have:=h.cur a hr i v (by rw[ha];have:=(q7t.1 hi).1;omega) hi;exact q7a.1 this
theorem EndI.step{n:Nat}{rows:List (List Int)}{out stack:List Int}{seen:List Bool}{at_:List Int}(h:EndI n rows out stack seen at_){a b:Int}(ha:0<=a/\a<n)(hk:at_.getD a.toNat 0=k)(hb:(rows.getD a.toNat [])[k]?=some b)(hs:b∈out++stack):EndI n rows out stack seen (at_.set a.toNat ((k:Int)+1)):=by
 have hlt:a.toNat<at_.length:=by rw[h.al];omega
 refine⟨h.dfs,h.sl,by simpa using h.al,h.seen,fun x hx=>?_,fun x hx i y hi hy=>?_⟩
 ·rw[ZU hlt];split
  ·rename_i he;have:=(q7t.1 hb).1;rw[<-he];omega
  ·exact h.arng x hx
 ·rw[ZU hlt]at hi;split at hi
  ·rename_i he;rw[<-he]at hy;rcases q7e i k with hik|hik
   ·exact h.cur a ha i y (by omega) hy
   ·have:i=k:=by omega
    subst this;rw[hb]at hy;cases hy;exact hs
  ·exact h.cur x hx i y hi hy
def Ir(m:Int)(l:List Int):Int:=l.foldl (fun m x=>if x<m then x else m) m
def F8:List Int->Int
 |[]=>0
 |a::r=>Ir a r
theorem B9:∀(l:List Int)(m:Int),Ir m l∈m::l/\∀x∈m::l,Ir m l<=x
 |[],m=>⟨by simp[Ir],by simp[Ir]⟩
 | a::r,m=>by
   obtain⟨h1,h2⟩:=B9 r (if a<m then a else m);have e:Ir m (a::r)=Ir (if a<m then a else m) r:=rfl;have h3:=h2 _ q7d;rw[e];generalize Ir (if a<m then a else m) r=z at h1 h2 h3⊢;refine⟨?_,fun x hx=>?_⟩
   ·rcases q7r.1 h1 with h|h
    ·rw[h];split<;>simp
    ·exact q7n _ (q7n _ h)
   ·rcases q7r.1 hx with rfl|hx
    ·split at h3<;>omega
    ·rcases q7r.1 hx with rfl|hx
     ·split at h3<;>omega
     ·exact h2 x (q7n _ hx)
theorem Bq(h:0<l.length):F8 l∈l/\∀x∈l,F8 l<=x:=by
 cases l with
 |nil=>simp at h
 |cons a r=>exact B9 r a
theorem OpK.min2{P:Program}{N:Nat}{s:St}{o:Oper}{K:St->Prop}{x y:Operand}{ts:Array TypeId}(hop:o.op=.call {callee:=.builtin .min,args:=#[x,y],argTypes:=ts}){m n:Int}(hx:QL s.sl x=.p (.int .i64 m))(hy:QL s.sl y=.p (.int .i64 n))(h:setD N s.sl o.dst (.p (.int .i64 (if n<m then n else m))) fun sl=>K ⟨sl,s.H⟩):OpK P N s o K:=by
 refine⟨fun σ β a w hr Q=>?_⟩;have h1:=QZ hr.slots x;have h2:=QZ hr.slots y;rw[hx]at h1;rw[hy]at h2;have e1:=h1.int;have e2:=h2.int;have hrun:(execOp a.eval o).run P w=.ok (.value (.int .i64 (if n<m then n else m))) w:=by
  simp[execOp,hop,resolve,invoke,builtin,e1,e2,Builtin.min_,Builtin.min2]
 obtain⟨sl,hK,hr2⟩:=hr.setD (.p (.int .i64 (if n<m then n else m))) h;exact XE hrun ⟨σ,β,_,hK,hr2,Later.refl _ _ _ _⟩
theorem PN(l:List Int)(hl:0<l.length):SpecP prog 266 [QA l] (fun r=>r=.int .i64 (F8 l)):=by
 refine sB HH func266 rfl call266 ?_;conv=>whnf
 have hlm:(l.map (AV.int .i64)).length=l.length:=q7f _;repeat' (first|(refine iM fun _=>?_;conv=>whnf)|(apply bD<;>intro _<;>first|omega|conv=>whnf))
 refine IdxK.at (k:=0) (e:=.int .i64 l[0]) rfl (by simp[hl]) rfl ?_;conv=>whnf
 skip
 refine LoopK.inv QK (fun x:Nat×Int=>⟨[(0,.p (QA l)),(3,.p (.int .i64 x.2)),(4,.p (.int .i64 x.1))],[]⟩) (fun x=>1<=x.1/\x.1<=l.length/\F8 (x.2::l.drop x.1)=F8 l) (fun x=>l.length-x.1) (1,l[0]) (Le.of_eq rfl) ⟨q8z _,hl,by
  cases l with
  |nil=>simp at hl
  |cons a r=>rfl⟩ ?_
 rintro⟨j,m⟩ ⟨h1,h2,h3⟩;simp only at h1 h2 h3⊢;rcases q7e j l.length with hj|hj
 ·rw[QB hj]at h3;conv=>whnf
  repeat' (first|((first|(refine iM fun _=>?_)|(refine iA fun _=>?_)|refine wI ?_|refine OpK.min2 rfl rfl rfl ?_);conv=>whnf)|(apply bD<;>intro _<;>first|omega|conv=>whnf))
  exact⟨(j+1,if l[j]<m then l[j]else m),⟨by simp only;omega,hj,h3⟩,by simp only;omega,Le.of_eq rfl⟩
 ·rw[q8v hj]at h3;conv=>whnf
  repeat' (first|(refine iM fun _=>?_;conv=>whnf)|(apply bD<;>intro _<;>first|omega|conv=>whnf))
  exact RetK.int h3
theorem CU{α:Type}{f g:α->Nat}:∀{l:List α},(∀x∈l,f x<=g x)->(∃x∈l,f x<g x)->(l.map f).sum<(l.map g).sum
 |[],_,h=>by obtain⟨x,hx,_⟩:=h;cases hx
 | a::r,h1,h2=>by
   have hle:∀{l:List α},(∀x∈l,f x<=g x)->(l.map f).sum<=(l.map g).sum:=fun {l} h=>by
    induction l with
    |nil=>simp
    | cons b r ih=>
      simp only[q8f,x2c];have:=ih fun x hx=>h x (q7n _ hx);have:=h b q7d;omega
   simp only[q8f,x2c];have h3:=h1 a q7d;have h4:=hle fun x hx=>h1 x (q7n _ hx);obtain⟨x,hx,h5⟩:=h2;rcases q7r.1 hx with rfl|hx
   ·omega
   ·have:=CU (fun y hy=>h1 y (q7n _ hy)) ⟨x,hx,h5⟩;omega
def muE(rows:List (List Int))(at_:List Int)(n:Nat):Nat:=((List.range n).map fun i=>(rows.getD i []).length-(at_.getD i 0).toNat).sum
theorem Ef{n:Nat}{rows:List (List Int)}{at_:List Int}{a:Nat}(ha:a<n)(hl:at_.length=n)(hk:at_.getD a 0=k)(hlt:k<(rows.getD a []).length):muE rows (at_.set a ((k:Int)+1)) n<muE rows at_ n:=by
 unfold muE;refine CU (fun i _=>?_) ⟨a,q9q.2 ha,?_⟩
 ·rw[ZU (by omega)];split
  ·rename_i h;rw[<-h,hk];omega
  ·exact q8z _
 ·rw[ZU (by omega),if_pos rfl,hk];omega
theorem Hy{n:Nat}(h:l.Nodup)(hr:∀x∈l,0<=x/\x<n):l.length<=n:=by
 have:=FG (m:=(List.range n).map fun(k:Nat)=>(k:Int)) h fun x hx=>q7s.2 ⟨x.toNat,q9q.2 (by have:=hr x hx;omega),by have:=hr x hx;omega⟩;simpa using this
theorem Iq{l:List Bool}{i:Nat}(h:i<l.length):(l.map bv)[i]?=some (bv (l.getD i false)):=by
 rw[q7l,q7g h,q7h,q7g h];rfl
theorem B3{i:Nat}(h:i<l.length):(l.map (AV.int .i64))[i]?=some (.int .i64 (l.getD i 0)):=by
 rw[q7l,q7g h,q7h,q7g h];rfl
def q1z(n:Nat)(rows:List (List Int))(r:AV):Prop:=∃es,r=QA es/\EndsP n (rowE rows) es
theorem Zy(n:Nat)(hn:n<=5000)(g:List (List Int)×List (List Int))(hg:XG n g.1):SpecP prog 265 [VQ g] (fun r=>q1z n g.1 r):=by
 refine sB NY func265 rfl call265 ?_;conv=>whnf
 have hl:((avI g.1).map AV.sl).length=n:=by simp[avI,hg.1]
 repeat' ((first|(refine iM fun _=>?_)|refine aR ?_|refine x2m n (by rw[hl]) (by show 1*n<=140737488355328;omega) (by unfold maxLen;omega) ?_|refine x2m n (by rw[hl]) (by show 8*n<=140737488355328;omega) (by unfold maxLen;omega) ?_);conv=>whnf)
 refine LoopK.inv QK (fun x:Nat×List Int×List Bool×List Int=>⟨[(0,.p (VQ g)),(3,.hd 2 0 x.2.1.length),(4,.hd 3 0 0),(5,.hd 0 0 n),(6,.hd 1 0 n),(26,.p (.int .i64 n)),(27,.p (.int .i64 x.1))],[(0,.own 4 1 (x.2.2.1.map bv)),(1,.own 3 1 (x.2.2.2.map (.int .i64))),(2,.own 3 1 (x.2.1.map (.int .i64))),(3,.own 3 1 [])]⟩)
  (fun x=>x.1<=n/\EndI n g.1 x.2.1 [] x.2.2.1 x.2.2.2/\∀y:Int,0<=y/\y<x.1->y∈x.2.1) (fun x=>n-x.1) (0,[],List.replicate n false,List.replicate n 0)
  (Le.mk [(2,.own 3 1 []),(3,.own 3 1 [])] (by simp[Chunk.new0];exact⟨rfl,rfl⟩) (by simp) (by simp) (.r (.cons (.nil q7d) (.cons (.nil (q7n _ q7d)) (.r (.r (.cons (.of_eq (by rw[hl];rfl)) (.r .nil)))))))
    (.cons rfl (.of_eq (by rw[x0l];rfl)) (.cons rfl (.of_eq (by rw[x0l];rfl)) (.new q7d (.new (q7n _ q7d) .nil)))))
  ⟨q7c _,EndI.start n g.1,fun y hy=>by omega⟩ ?_
 rintro⟨r,out,seen,at_⟩ ⟨h1,h2,h3⟩;simp only at h1 h2 h3⊢;have hsl:=h2.sl;have hal:=h2.al;rcases q7e r n with hr|hr;rotate_left 1
 ·conv=>whnf
  repeat' (apply bD<;>intro _<;>first|omega|conv=>whnf)
  have hall:∀x:Int,0<=x/\x<n->x∈out:=fun x hx=>h3 x (by omega);exact⟨_,.hd rfl (by simp),out,rfl,h2.dfs.fin (fun x y hxy=>FP hg hxy.2) hall⟩
 have e1:=Iq (l:=seen) (i:=r) (by omega);have hstart:∃st s2,EndI n g.1 out st s2 at_/\(r:Int)∈out++st/\((seen.getD r false=true/\st=[]/\s2=seen)\/(seen.getD r false=false/\st=[(r:Int)]/\s2=seen.set r true)):=by
  cases hq:seen.getD r false with
  |true=>exact⟨[],seen,h2,(h2.seen r (by omega)).1 (by simpa using hq),.inl ⟨rfl,rfl,rfl⟩⟩
  |false=>exact⟨[(r:Int)],seen.set r true,h2.push (stack:=[]) (b:=r) (by omega) (by simpa using hq) trivial,by simp,.inr ⟨rfl,rfl,rfl⟩⟩
 obtain⟨st0,seen0,h4,h5,h6⟩:=hstart;rcases h6 with⟨hq,hst,hs0⟩|⟨hq,hst,hs0⟩;all_goals
  rw[hq]at e1;conv=>whnf
  repeat' (first|((first|refine q7p rfl ?_|refine aD ?_|refine bP ?_|refine q9x r rfl (by omega) ?_|refine q9t r 0 .tt (by omega) e1 ?_|refine q9t r 0 .ff (by omega) e1 ?_|refine x0r r 0 .ff .tt (by omega) e1 (q8z 1) rfl ?_|refine XX rfl (by simp) ?_);conv=>whnf)|(apply bD<;>intro _<;>first|omega|conv=>whnf))
  refine LoopK.inv QK (fun x:List Int×List Int×List Bool×List Int=>⟨[(0,.p (VQ g)),(3,.hd 2 0 x.1.length),(4,.hd 3 0 x.2.1.length),(5,.hd 0 0 n),(6,.hd 1 0 n),(26,.p (.int .i64 n)),(27,.p (.int .i64 r))],[(0,.own 4 1 (x.2.2.1.map bv)),(1,.own 3 1 (x.2.2.2.map (.int .i64))),(2,.own 3 1 (x.1.map (.int .i64))),(3,.own 3 1 (x.2.1.map (.int .i64)))]⟩)
   (fun x=>EndI n g.1 x.1 x.2.1 x.2.2.1 x.2.2.2/\(r:Int)∈x.1++x.2.1/\∀y:Int,0<=y/\y<r->y∈x.1) (fun x=>muE g.1 x.2.2.2 n+(n-x.1.length)) (out,st0,seen0,at_)
   (Le.mk [] (by simp) (by simp) (by simp) (.r (.r (.cons (.of_eq (by first|(rw[hst];done)|(rw[hst];rfl))) (.r (.r (.r (.r .nil)))))))
     (.cons rfl (.of_eq (by rw[hs0];first|done|rfl|(rw[q9k];rfl))) (.cons rfl (.refl _) (.cons rfl (.refl _) (.cons rfl (.of_eq (by rw[hst];rfl)) .nil)))))
   ⟨h4,h5,h3⟩ ?_
  clear h4 h5 hst hs0 e1 hq hsl hal h2 h3;rintro⟨o,stk,s,t⟩ ⟨h2,h3,h4⟩;simp only at h2 h3 h4⊢;have hsl:=h2.sl;have hal:=h2.al;have hol:o.length<=n:=Hy (by have:=h2.dfs.nd;rw[x0x]at this;exact this.1) fun x hx=>h2.dfs.rng x (q7a.2 (.inl hx));rcases List.eq_nil_or_concat stk with rfl|⟨st,a,rfl⟩
  ·have hz:(([]:List Int).length)=0:=rfl;conv=>whnf
   repeat' (first|((first|(refine iM fun _=>?_)|refine wI ?_);conv=>whnf)|(apply bD<;>intro _<;>first|omega|conv=>whnf))
   exact⟨(r+1,o,s,t),⟨hr,h2,fun y hy=>by
    rcases Int.lt_or_le y r with hyr|hyr
    ·exact h4 y ⟨hy.1,hyr⟩
    ·have:y=r:=by simp only at hy;omega
     rw[this];simpa using h3⟩,by simp only;omega,Le.of_eq rfl⟩
  ·rw [List.concat_eq_append]at h2 h3⊢;have ha:=h2.dfs.rng a (by simp);have hstl:(st++[a]).length=st.length+1:=by simp
   obtain⟨hk0,hk1⟩:=h2.arng a ha;have e2:=B3 (l:=t) (i:=a.toNat) (by omega);have e3:((st++[a]).map (AV.int .i64))[st.length]?=some (.int .i64 a):=by simp
   have hrow:((avI g.1).map AV.sl)[a.toNat]?=some (.sl ((g.1.getD a.toNat []).map (.int .i64))):=by
    have:a.toNat<g.1.length:=by rw[hg.1];omega
    rw[q7h,q7g this];simp[avI,this]
   obtain⟨k,hk⟩ : ∃k:Nat,t.getD a.toNat 0=k:=⟨(t.getD a.toNat 0).toNat,by omega⟩;rw[hk]at e2 hk1;have hrl:((g.1.getD a.toNat []).map (AV.int .i64)).length=(g.1.getD a.toNat []).length:=q7f _;have hnd:=h2.dfs.nd;rcases q7e k (g.1.getD a.toNat []).length with hkl|hkl
   ·obtain⟨b,hb⟩ : ∃b,(g.1.getD a.toNat [])[k]?=some b:=⟨_,q7g hkl⟩;have hbe:(g.1.getD a.toNat [])[k]=b:=by rw[q7g hkl]at hb;exact x0m hb
    have hE:rowE g.1 a b:=⟨ha.1,x0g.2 ⟨k,hb⟩⟩;have hbr:=FP hg hE.2;have hmu:=Ef (by omega) hal hk hkl;have e4:=Iq (l:=s) (i:=b.toNat) (by omega);have hstk:(st++[a]).length<=n:=Hy (x0x.1 hnd).2.1 fun x hx=>h2.dfs.rng x (q7a.2 (.inr hx));have hms:(t.set a.toNat ((k:Int)+1)).map (AV.int .i64)=(t.map (AV.int .i64)).set a.toNat (.int .i64 ((k:Int)+1)):=q9k;have hkm:=h2.arng a ha;cases hq:s.getD b.toNat false with
    | true=>
      rw[hq]at e4;conv=>whnf
      repeat' (first|((first|(refine iM fun _=>?_)|refine dA ?_|refine q7p rfl ?_|(refine iA fun _=>?_)|refine wI ?_|refine q9x st.length (by omega) (by omega) ?_|refine q9t st.length 0 (.int .i64 a) (by omega) e3 ?_|refine q9x a.toNat (by omega) (by omega) ?_|refine q9t a.toNat 0 (.int .i64 k) (by omega) e2 ?_|(refine IdxK.at (k:=a.toNat) (by omega) hrow rfl ?_)|refine q9x b.toNat (by omega) (by omega) ?_|refine q9t b.toNat 0 .tt (by omega) e4 ?_|refine x0r a.toNat 0 (.int .i64 k) (.int .i64 (k+1)) (by omega) e2 (q8z 1) rfl ?_);conv=>whnf)|(apply bD<;>intro _<;>first|omega|conv=>whnf))
      exact⟨(o,st++[a],s,t.set a.toNat ((k:Int)+1)),⟨h2.step ha hk hb ((h2.seen b hbr).1 hq),h3,h4⟩,by simp only;omega,Le.mk [] (by simp) (by simp) (by simp) (.r (.r (.r (.r (.r (.r (.r .nil))))))) (.cons rfl (.refl _) (.cons rfl (.of_eq (by rw[hms])) (.cons rfl (.refl _) (.cons rfl (.refl _) .nil))))⟩
    | false=>
      rw[hq]at e4;conv=>whnf
      repeat' (first|((first|(refine iM fun _=>?_)|refine dA ?_|refine q7p rfl ?_|refine aD ?_|refine bP ?_|(refine iA fun _=>?_)|refine wI ?_|refine q9x st.length (by omega) (by omega) ?_|refine q9t st.length 0 (.int .i64 a) (by omega) e3 ?_|refine q9x a.toNat (by omega) (by omega) ?_|refine q9t a.toNat 0 (.int .i64 k) (by omega) e2 ?_|(refine IdxK.at (k:=a.toNat) (by omega) hrow rfl ?_)|refine q9x b.toNat (by omega) (by omega) ?_|refine q9t b.toNat 0 .ff (by omega) e4 ?_|refine x0r a.toNat 0 (.int .i64 k) (.int .i64 (k+1)) (by omega) e2 (q8z 1) rfl ?_|refine x0r b.toNat 0 .ff .tt (by omega) e4 (q8z 1) rfl ?_|refine XX (by simp) (by simp;omega) ?_);conv=>whnf)|(apply bD<;>intro _<;>first|omega|conv=>whnf))
      have h8:=h2.push hbr hq (Wo st h2.dfs.path hE);exact⟨(o,st++[a]++[b],s.set b.toNat true,t.set a.toNat ((k:Int)+1)),⟨h8.step ha hk hb (by simp),by rw[<-q8d];exact q7a.2 (.inl h3),h4⟩,by simp only;omega,Le.mk [] (by simp) (by simp) (by simp) (.r (.r (.cons (.of_eq (by simp;rfl)) (.r (.r (.r (.r .nil))))))) (.cons rfl (.of_eq (by rw[q9k];rfl)) (.cons rfl (.of_eq (by rw[hms])) (.cons rfl (.refl _) (.cons rfl (.of_eq (by rw[hbe];simp;rfl)) .nil))))⟩
   ·have hkl2:k=(g.1.getD a.toNat []).length:=by omega
    have hp:=h2.pop (by rw[hk,hkl2]);have hol2:o.length+1<=n:=by
     have h7:=hp.dfs;have:=Hy (x0x.1 h7.nd).1 fun x hx=>h7.rng x (q7a.2 (.inl hx));simpa using this
    conv=>whnf
    repeat' (first|((first|(refine iM fun _=>?_)|refine dA ?_|refine q7p rfl ?_|refine aD ?_|refine bP ?_|refine wI ?_|refine q9x st.length (by omega) (by omega) ?_|refine q9t st.length 0 (.int .i64 a) (by omega) e3 ?_|refine q9x a.toNat (by omega) (by omega) ?_|refine q9t a.toNat 0 (.int .i64 k) (by omega) e2 ?_|(refine IdxK.at (k:=a.toNat) (by omega) hrow rfl ?_)|refine XX (by simp) (by simp;omega) ?_|refine SlK.mk 0 st.length rfl (by show((st++[a]).length:Int)-1=_;omega) (by omega) (by omega) ?_);conv=>whnf)|(apply bD<;>intro _<;>first|omega|conv=>whnf))
    have h9:muE g.1 t n+(n-(o++[a]).length)<muE g.1 t n+(n-o.length):=by simp;omega
    exact⟨(o++[a],st,s,t),⟨hp,by simpa[or_assoc,or_comm,or_left_comm]using h3,fun y hy=>q7a.2 (.inl (h4 y hy))⟩,h9,(Le.cut (.same (.same (.same (.cut (es':=st.map (.int .i64)) ⟨[.int .i64 a],by simp⟩ .nil))))).trans (Le.mk [] (by simp) (by simp) (by simp) (.r (.cons (.of_eq (by simp;rfl)) (.cons (.of_eq (by simp;rfl)) (.r (.r (.r (.r .nil))))))) (.cons rfl (.refl _) (.cons rfl (.refl _) (.cons rfl (.of_eq (by simp;rfl)) (.cons rfl (.refl _) .nil)))))⟩
end Go.Ab
