/- A call that is lent memory of the caller's own, and hands back one fresh row of what leads nowhere. Conditions: none. -/
import Derived.Test.YtmfnbgbblkhneaaGreatRchL5
import Derived.Test.YtmfnbgbblkhneaaGreatRchL6
import Derived.Test.YtmfnbgbblkhneaaGreatRchL7
set_option linter.unusedSimpArgs false
set_option linter.unusedVariables false
set_option maxRecDepth 100000
set_option maxHeartbeats 16000000
open List (all_cons any_cons)
open Nat (ble)
namespace Go.Ab
open Go.Proofs.Tryz
variable {α:Type}{A B nil:Prop}{K:List AV->Prop}{L:List Str}{N T i j k sz:Nat}{P:Program}{b:Bool}{info:Info}{nest seen:Int}{ops:Array Oper}
def OneRow(R:Nat->TypeId->Nat->List AV->Prop)(nil:Prop)(l:LV)(H:Heap):Prop:=
 (l=.p .nils/\H=[]/\nil)\/∃q e sz es,l=.hd q 0 es.length/\H=[(q,.own e sz es)]/\(∀x∈es,∀c∈x.cells,c.flat=true)/\R q e sz es
theorem JV{g:FuncId}{args:List LV}{dst:Option Nat}{s:St}{K:St->Prop}{avs:List AV}{R:Nat->TypeId->Nat->List AV->Prop}(k:Nat)(hu:WU k s=true)(hs:SpecH P g (avs.map .p) [] (OneRow R nil))(ha:FrzL s.H args avs)(hn:nil->setD N s.sl dst (.p .nils) fun sl=>K ⟨sl,s.H⟩)(h:∀q e sz es,R q e sz es->setD N s.sl dst (.hd k 0 es.length) fun sl=>K ⟨sl,(k,.own e sz es)::s.H⟩):CallK P N g args dst s K:=by
 refine⟨fun σ β a w hr vals hnv hv=>⟨hs.go vals,?_⟩⟩;obtain⟨hlen,hget⟩:=ha.get;obtain⟨τ,h5,h6,h7,h8⟩:=DW hr.heap;have hrel0:HRel τ (fun _=>none) [] w:=⟨h6,fun k c hc=>(by cases hc),x8f,fun k hk=>(by cases hk),fun k hk=>(by cases hk)⟩;have hno:∀b,¬owns (fun _=>none) [] b:=fun b ⟨j,hj,_⟩=>by cases hj
 refine(hs.ok τ (fun _=>none) w vals (by rw[x2m];exact hnv.trans hlen) (fun j l hj=>?_) hrel0).mono fun e w' ⟨l,u,σ',β',H',he,hR,hrep,hrel',hlat⟩=>?_
 ·rw[x2e]at hj;cases hc:avs[j]?with
  |none=>rw[hc]at hj;cases hj
  | some c=>
    rw[hc]at hj;cases hj;obtain⟨l,h1,h2⟩:=hget j c hc;exact .p (h8 l _ c (hv j l h1) h2)
 ·have hlies:σ.lies w':=fun b c hb=>hrel'.mem b c (hlat.le b c (h5 b c hb));have hf:Frm (fun _=>False) w w':=⟨hlat.frm.os,hlat.frm.tape,hlat.frm.output,hlat.frm.drawn,hlat.frm.size,fun b hb _=>hlat.frm.block b hb (hno b)⟩;have hf':Frm (owns β s.H) w w':=⟨hf.os,hf.tape,hf.output,hf.drawn,hf.size,fun b hb _=>hf.block b hb id⟩;have hk0:=hr.heap.kept (Mem.le_refl σ) hlies hf fun b h0 h1=>absurd h0 h1;rcases hR with⟨rfl,rfl,hnil⟩|⟨q,e0,sz,es,rfl,rfl,hfl,hR⟩
  ·have hr':Rel N σ β s a w':=⟨hr.size,hr.defers,hr.slots,hk0⟩;have hrp:RepL σ β (.p .nils) u:=by
    cases hrep with
    |p h=>exact .p (h.flat rfl)
   obtain⟨sl,hK,hr''⟩:=hr'.setD hrp (hn hnil);exact⟨u,σ,β,_,he,hK,hr'',Mem.le_refl σ,hf',fun b h0 h1=>absurd h0 h1,fun b hb=>.inl hb,fun _ _ _=>rfl⟩
  ·obtain⟨hu1,hu2⟩:=XL hu;have hkl:=YW hu;have hset:∀j,j≠k->(β.set k (β' q)) j=β j:=fun j hj=>by simp[Lab.set,hj]
   have hsetk:(β.set k (β' q)) k=β' q:=by simp[Lab.set]
   have hnew:∀i,β' q=some i->∀b,i.has b->w.heap.size<=b/\σ b=none/\b<w'.heap.size:=fun i hi b hb=>by
    have h1:=hrel'.apart q (x2a.2 rfl) i hi b hb;refine⟨?_,?_,h1.2⟩
    ·rcases hlat.own b ⟨q,x2a.2 rfl,i,hi,hb⟩with h2|h2
     ·exact absurd h2 (hno b)
     ·exact h2
    ·cases h2:σ b with
     |none=>rfl
     |some c=>rw[hlat.le b c (h5 b c h2)]at h1;cases h1.1
   have hch:(Chunk.own e0 sz es).holds σ (β.set k (β' q)) w' k:=by
    rcases hrel'.chunks q (.own e0 sz es) (x2a.2 rfl)with⟨h1,h2⟩|⟨i,vs,h1,h2,h3,h4,h5',h6',h7'⟩
    ·exact .inl ⟨hsetk.trans h1,h2⟩
    ·refine .inr ⟨i,vs,hsetk.trans h1,h2,h3,h4,h5',h6',fun m x hx=>⟨(h7' m x hx).1,fun jj c hc=>?_⟩⟩;obtain⟨v,h8',h9⟩:=(h7' m x hx).2 jj c hc;exact⟨v,h8',h9.flat (hfl x (x3k hx) c (x3k hc))⟩
   have hks:∀j∈s.H.map (·.1),j≠k:=fun j hj=>by
    obtain⟨⟨j',c⟩,hm,rfl⟩:=x3q.1 hj;exact(hu1 j' c hm).1
   have hr':Rel N σ (β.set k (β' q)) ⟨s.sl,(k,.own e0 sz es)::s.H⟩ a w':=by
    refine⟨hr.size,hr.defers,fun i=>(hr.slots i).set _ (hu2 i),hlies,fun j c hj=>?_,?_,fun j hj i hi b hb=>?_,fun j hj j' hj' i i' hi hi' b hb hb'=>?_⟩
    ·rcases x2i.1 hj with he'|hj
     ·cases he';exact hch
     ·exact(hk0.chunks j c hj).set _ (hu1 j c hj).1 (hu1 j c hj).2
    ·rw[x3l,x4r];exact⟨fun hm=>hks k hm rfl,hk0.nodup⟩
    ·rcases x2i.1 hj with he'|hj
     ·have he':j=k:=he';subst he';rw[hsetk]at hi;exact(hnew i hi b hb).2
     ·rw[hset j (hks j hj)]at hi;exact hk0.apart j hj i hi b hb
    ·have hold:∀j∈s.H.map (·.1),∀i,(β.set k (β' q)) j=some i->∀b,i.has b->b<w.heap.size:=fun j hj i hi b hb=>by
      rw[hset j (hks j hj)]at hi;exact(hr.heap.apart j hj i hi b hb).2
     rcases x2i.1 hj with he'|hm<;>rcases x2i.1 hj' with he''|hm'
     ·exact he'.trans he''.symm
     ·have he':j=k:=he';subst he';rw[hsetk]at hi;have:=(hnew i hi b hb).1;have:=hold j' hm' i' hi' b hb';omega
     ·have he'':j'=k:=he'';subst he'';rw[hsetk]at hi';have:=(hnew i' hi' b hb').1;have:=hold j hm i hi b hb;omega
     ·rw[hset j (hks j hm)]at hi;rw[hset j' (hks j' hm')]at hi';exact hk0.inj j hm j' hm' i i' hi hi' b hb hb'
   have hrp:RepL σ (β.set k (β' q)) (.hd k 0 es.length) u:=by
    rcases hrep.hdI with⟨h1,_,h2,rfl⟩|⟨i,o,h1,h2,h3,rfl⟩
    ·rw[h2];exact .hdn k (hsetk.trans h1)
    ·exact .hd k 0 es.length i o (hsetk.trans h1) h2 h3
   obtain⟨sl,hK,hr''⟩:=hr'.setD hrp (h q e0 sz es hR);refine⟨u,σ,_,_,he,hK,hr'',Mem.le_refl σ,hf',fun b h0 h1=>absurd h0 h1,fun b hb=>?_,fun j h1 _=>hset j (by omega)⟩;obtain⟨j,hj,i,hi,hb⟩:=hb;rcases x2i.1 hj with he'|hj
   ·have he':j=k:=he';subst he';rw[hsetk]at hi;exact .inr (hnew i hi b hb).1
   ·rw[hset j (hks j hj)]at hi;exact .inl ⟨j,hj,i,hi,hb⟩
open Go.Proofs
theorem q5g{p:Prop}[Decidable p](h:p->A)(h':¬p->B):Br (decide p) A B:=⟨fun e=>h (by simpa using e),fun e=>h' (by simpa using e)⟩
theorem q1o{p:Prop}[Decidable p](h:p->A)(h':¬p->B):Br (!decide p) B A:=⟨fun e=>h' (by simpa using e),fun e=>h (by simpa using e)⟩
theorem Br.n(h:b=true->B)(h':b=false->A):Br (!b) A B:=⟨fun e=>h' (by simpa using e),fun e=>h (by simpa using e)⟩
theorem ByteK.at{s:List UInt8}{K:UInt8->Prop}(hk:k<s.length)(h:K s[k]):ByteK s k K:=⟨k,s[k],rfl,by simp,h⟩
theorem X.avs_len(l:List X):(X.avs l).length=l.length:=by rw[X.avs_eq];simp
theorem S.avs_len(l:List S):(S.avs l).length=l.length:=by rw[S.avs_eq];simp
theorem IdxK.map{f:α->AV}{l:List α}(hk:k<(l.map f).length)(hs:∀x,(f x).cells.length=sz)(h:K (f (l[k]'(by simpa using hk))).cells):IdxK (l.map f) sz k K:=
 ⟨k,f (l[k]'(by simpa using hk)),rfl,by simp at hk;simp[hk],hs _,h⟩
theorem IdxK.xs{l:List X}(hk:k<(X.avs l).length)(h:K (l[k]'(by rw[X.avs_len]at hk;exact hk)).cells):IdxK (X.avs l) 4 k K:=by
 rw[X.avs_len]at hk;refine⟨k,.agg l[k].cells,rfl,?_,rfl,h⟩;rw[X.avs_eq];simp[hk]
theorem QX{l:List S}(hk:k<(S.avs l).length)(h:K (l[k]'(by rw[S.avs_len]at hk;exact hk)).cells):IdxK (S.avs l) 13 k K:=by
 rw[S.avs_len]at hk;refine⟨k,.agg l[k].cells,rfl,?_,rfl,h⟩;rw[S.avs_eq];simp[hk]
theorem RetK.tt{H:Heap}{b:Bool}(h:b=true):RetK H (.p .tt) (fun r=>r=.bool b):=⟨_,.p (Sub.tt h),rfl⟩
theorem RetK.ff{H:Heap}{b:Bool}(h:b=false):RetK H (.p .ff) (fun r=>r=.bool b):=⟨_,.p (Sub.ff h),rfl⟩
theorem RetK.bool{H:Heap}{a b:Bool}(h:a=b):RetK H (.p (.bool a)) (fun r=>r=.bool b):=⟨_,.p (Sub.bool h),rfl⟩
theorem RetK.int{H:Heap}{k:IntKind}{m n:Int}(h:m=n):RetK H (.p (.int k m)) (fun r=>r=.int k n):=⟨_,.p (Sub.int h),rfl⟩
theorem RetK.p{H:Heap}{a b:AV}(h:a=b):RetK H (.p a) (fun r=>r=b):=⟨_,.p (Sub.of_eq h),rfl⟩
theorem QF{l:List α}(h:j<l.length):l.drop j=l[j]::l.drop (j+1):=by simp
theorem HW{l:List α}{p:α->Bool}(hj:j<l.length)(h:p l[j]=true):(l.drop (j+1)).all p=(l.drop j).all p:=by
 rw[QF hj,all_cons,h,Bool.true_and]
theorem Zt{l:List α}{p:α->Bool}(hj:j<l.length)(h:p l[j]=false):(l.drop j).all p=false:=by
 rw[QF hj,all_cons,h,Bool.false_and]
theorem HZ{l:List α}{p:α->Bool}(hj:l.length<=j):(l.drop j).all p=true:=by
 rw[x3b hj];rfl
theorem Kz{l:List α}{p:α->Bool}(hj:j<l.length)(h:p l[j]=false):(l.drop (j+1)).any p=(l.drop j).any p:=by
 rw[QF hj,any_cons,h,Bool.false_or]
theorem F9{l:List α}{p:α->Bool}(hj:j<l.length)(h:p l[j]=true):(l.drop j).any p=true:=by
 rw[QF hj,any_cons,h,Bool.true_or]
theorem Xf{l:List α}{p:α->Bool}(hj:l.length<=j):(l.drop j).any p=false:=by
 rw[x3b hj];rfl
theorem q0z{β:Type}{l:List α}{g:α->β}(hj:j<l.length):(l.take (j+1)).map g=(l.take j).map g++[g l[j]]:=by
 rw[x3u hj,x3y];rfl
def Xc{α:Type}(p:α->Bool)(l:List α):Int:=bif l.any p then(l.findIdx p:Nat)else -1
theorem q2m{l:List α}{p:α->Bool}(hj:j<l.length)(h:p l[j]=false):(l.drop j).findIdx p=(l.drop (j+1)).findIdx p+1:=by
 rw[QF hj,List.findIdx_cons,h,x3t]
theorem q6x{l:List α}{p:α->Bool}(hj:j<l.length)(h:p l[j]=true):(l.drop j).findIdx p=0:=by
 rw[QF hj,List.findIdx_cons,h,x3p]
theorem Y2{p:α->Bool}{l:List α}:decide (Xc p l≥0)=l.any p:=by
 unfold Xc;cases l.any p<;>simp
theorem Fa{p:α->Bool}{l:List α}(hj:j<l.length)(h:p l[j]=true)(h1:(l.drop j).any p=l.any p)(h2:l.findIdx p=j+(l.drop j).findIdx p):Xc p l=j:=by
 unfold Xc;rw[<-h1,F9 hj h,x3p,h2,q6x hj h];rfl
theorem Ld{p:α->Bool}{l:List α}(h:l.any p=false):Xc p l = -1:=by
 unfold Xc;rw[h];rfl
theorem X4{T:Tab}{id:Nat}{K:St->Prop}{s:St}(S1:St)(h:DrawK P T N info id ops (fun s=>Mk info id s fun s3=>Le N s3 S1) s)(hK:Mk info id S1 K):
  DrawK P T N info id ops (fun s=>Mk info id s K) s:=by
 refine⟨⟨fun σ β a w hr=>Code.wp_mono (fun e a' w' hk=>?_) (h.ok.ok σ β a w hr)⟩⟩;obtain⟨σ',β',s',hk,hr',hl⟩:=hk;cases e<;>simp only at hk⊢;obtain⟨s2,h1,h2⟩:=Zx (N:=N) hk;obtain⟨σ2,β2,hr2,hl2⟩:=(h2.trans h1) σ' β' a' w' hr';exact⟨σ2,β2,S1,hK,hr2,hl.trans hl2⟩
theorem TH{T:Tab}{id:Nat}{K:St->Prop}{s:St}(hT:TabOK P T)(hm:P.follows .mixedOrders=true)(hok:(bif Fd ops.size ops.toList then bif ble (info.sched id).len ops.size then WN ops [] (info.sched id)else false else false)=true)(h:drW P T N ops (info.sched id) s K):DrawK P T N info id ops K s:=DrawK.of hT hm _ hok h
theorem bD{p:Prop}[Decidable p](h:p->A)(h':¬p->B):Br (decide p) A B:=q5g h h'
theorem bE{p:Prop}[Decidable p](h:p->A)(h':¬p->B):Br (!decide p) B A:=q1o h h'
theorem bB(h:b=true->A)(h':b=false->B):Br b A B:=⟨h,h'⟩
theorem bN(h:b=true->B)(h':b=false->A):Br (!b) A B:=Br.n h h'
theorem iM{n:Nat}{K:Prop}(h:n<=9223372036854775807->K):n<=9223372036854775807->K:=h
theorem wI{n:Int}{K:Int->Prop}(hk:K n)(h1 : -9223372036854775808<=n:=by omega)(h2:n<=9223372036854775807:=by omega):Wr .i64 n K:=Wr.i64 h1 h2 hk
theorem aD{a b c:Prop}(h:c)(h1:a:=by decide)(h2:b:=by decide):(a/\b)/\c:=⟨⟨h1,h2⟩,h⟩
theorem aR{a b c d:Prop}(h:d)(h1:a:=by exact rfl)(h2:b:=by exact rfl)(h3:c:=by decide):(a/\b/\c)/\d:=⟨⟨h1,h2,h3⟩,h⟩
theorem bP{es:List AV}{out:List LV}{Kp Ko:Prop}(hK:Kp)(hx:∀x∈es,x.cells.length=sz:=by intro x hx;rcases x2a.1 hx with rfl;rfl)(ho:out=(es.flatMap AV.cells).map .p:=by exact rfl):BsK es sz out Kp Ko:=.pure hx ho hK
theorem iA{f:α->AV}{l:List α}(h:∀hk:k<l.length,K (f l[k]).cells)(hk:k<(l.map f).length:=by omega)(hs:∀x,(f x).cells.length=sz:=by intro _;rfl):IdxK (l.map f) sz k K:=IdxK.map hk hs (h (by simpa using hk))
theorem dA{id:Nat}{K:St->Prop}{s:St}(h:drW prog tab N ops (info.sched id) s K)(hok:(bif Fd ops.size ops.toList then bif ble (info.sched id).len ops.size then WN ops [] (info.sched id)else false else false)=true:=by kernel_rfl):DrawK prog tab N info id ops K s:=TH QY mixed hok h
theorem cP{g:FuncId}{args:List LV}{dst:Option Nat}{s:St}{K:St->Prop}{avs:List AV}{c:AV}(hs:SpecP P g avs fun r=>r=c)(h:setD N s.sl dst (.p c) fun sl=>K ⟨sl,s.H⟩)(ha:ArgP args avs:=by(repeat (refine ArgP.cons ?_ ?_;first|exact Sub.refl _|exact Sub.tt rfl|exact Sub.ff rfl|exact Sub.int (by omega)));exact ArgP.nil):CallK P N g args dst s K:=CallK.pure hs ha fun _ e=>e▸h
theorem lE{s:St}{sl':List (Nat×LV)}{H':Heap}(hnd:(H'.map (·.1)).Nodup:=by simp)(hsl:WkS [] s.sl sl':=by(repeat (refine WkS.cons ?_ ?_;exact Wk.refl _));exact WkS.nil)(hH:WkH [] s.H H':=by(repeat refine WkH.cons rfl (CWk.refl _) ?_);exact WkH.nil):Le N s ⟨sl',H'⟩:=Le.mk [] (by simp) (by simp) hnd hsl hH
theorem sB(info:Info){f:FuncId}{fn:Func}{c:Code}(hf:prog.funcs[f]?=some fn)(hb:fn.body=some c)(hgo:∀(vals:Array Value)(w:World),(callFunc f vals).run prog w=.ok (.enter f vals) w){args:List AV}{R:AV->Prop}(h:W prog tab fn.ntmps info c (x1x tab fn.results R) ⟨P9 args 0,[]⟩)(hlen:args.length<=fn.ntmps:=by exact x7b rfl):SpecP prog f args R:=SpecP.body info QY hf hb hgo hlen h
theorem sH(info:Info){f:FuncId}{fn:Func}{c:Code}(hf:prog.funcs[f]?=some fn)(hb:fn.body=some c)(hgo:∀(vals:Array Value)(w:World),(callFunc f vals).run prog w=.ok (.enter f vals) w){args:List LV}{H:Heap}{R:LV->Heap->Prop}(h:W prog tab fn.ntmps info c (x1q tab fn.results R) ⟨Zs args 0,H⟩)(hlen:args.length<=fn.ntmps:=by exact x7b rfl):SpecH prog f args H R:=SpecH.body info QY hf hb hgo hlen h
def Hz(L:List Str)(_:Nat)(e:TypeId)(sz:Nat)(es:List AV):Prop:=e=9/\sz=1/\es=L.map .str
theorem TQ(L:List Str):∀x∈L.map AV.str,∀c∈x.cells,c.flat=true:=fun x hx c hc=>by
 obtain⟨s,_,rfl⟩:=x3q.1 hx;rw[x2a.1 (show c∈[AV.str s]from hc)];rfl
theorem NH{q n:Nat}(h:n=L.length):OneRow (Hz L) nil (.hd q 0 n) [(q,.own 9 1 (L.map .str))]:=
 .inr ⟨q,_,_,_,by rw[h,x2m],rfl,TQ L,rfl,rfl,rfl⟩
theorem OneRow.str{n:Nat}(h:n=L.length):OneRow (Hz L) False (.hd 0 0 n) [(0,.own 9 1 (L.map .str))]:=NH h
theorem UH{n:Nat}(h:n=L.length):OneRow (Hz L) nil (.hd 0 0 n) [(0,.own 9 1 (L.map .str))]:=NH h
def YO(c:UInt8):Bool:=decide (97<=(c.toNat:Int))&&decide ((c.toNat:Int)<=122)
def NS(c:UInt8):Bool:=decide (48<=(c.toNat:Int))&&decide ((c.toNat:Int)<=57)
def IR(c:UInt8):Bool:=YO c||NS c
theorem Gy(c:UInt8):SpecP prog 170 [.int .u8 c.toNat] (fun r=>r=.bool (YO c)):=by
 refine sB Bp func170 rfl call170 ?_;conv=>whnf
 repeat' (apply bD<;>intro _<;>first|omega|conv=>whnf)
 ·exact RetK.bool (by simp_all[YO];try omega)
 ·exact RetK.ff (by simp_all[YO];try omega)
theorem Ag(c:UInt8):SpecP prog 214 [.int .u8 c.toNat] (fun r=>r=.bool (NS c)):=by
 refine sB L6 func214 rfl call214 ?_;conv=>whnf
 repeat' (apply bD<;>intro _<;>first|omega|conv=>whnf)
 ·exact RetK.bool (by simp_all[NS];try omega)
 ·exact RetK.ff (by simp_all[NS];try omega)
def JM(s:Str)(i:Nat):Nat:=i+((s.drop i).takeWhile IR).length
theorem BT{s:Str}(h:i<s.length)(hc:IR s[i]=true):JM s (i+1)=JM s i:=by
 unfold JM;rw[QF h,List.takeWhile_cons,if_pos hc];simp only[x4q];omega
theorem Qz{s:Str}(h:∀(hi:i<s.length),IR s[i]=false):JM s i=i:=by
 unfold JM;by_cases hi:i<s.length
 ·rw[QF hi,List.takeWhile_cons,if_neg (by simp[h hi])];rfl
 ·rw[x3b (by omega)];rfl
theorem q3f(s:Str)(i:Nat)(hi:i<=s.length):SpecP prog 171 [.str s,.int .i64 i] (fun r=>r=.int .i64 (JM s i)):=by
 refine sB C8 func171 rfl call171 ?_;conv=>whnf
 refine LoopK.inv QY (fun j:Nat=>⟨[(0,.p (.str s)),(1,.p (.int .i64 j))],[]⟩) (fun j=>j<=s.length/\JM s j=JM s i) (fun j=>s.length-j) i (Le.of_eq rfl) ⟨hi,rfl⟩ ?_;rintro j ⟨h2,h3⟩;conv=>whnf
 repeat' (first|((first|(refine iM fun _=>?_)|refine cP (Gy _) ?_|refine cP (Ag _) ?_|(refine ByteK.at (by omega) ?_)|refine wI ?_);conv=>whnf)|(apply bD<;>intro _<;>first|omega|conv=>whnf)|(apply bB<;>intro _<;>conv=>whnf))
 ·exact⟨j+1,⟨by omega,by rw[BT (by omega) (by simp_all[IR])];exact h3⟩,by omega,Le.of_eq rfl⟩
 ·exact⟨j+1,⟨by omega,by rw[BT (by omega) (by simp_all[IR])];exact h3⟩,by omega,Le.of_eq rfl⟩
 ·exact RetK.int (by rw[<-h3,Qz fun _=>by simp_all[IR]])
 ·exact RetK.int (by rw[<-h3,Qz fun _=>by omega])
def W6(s:Str):Bool:=decide (s=[103,108,111,98,97,108])||decide (s=[112,114,111,99])||decide (s=[118,97,114])||decide (s=[114,101,102])||decide (s=[105,102])||decide (s=[101,108,115,101])||decide (s=[119,104,105,108,101])||decide (s=[98,114,101,97,107])||decide (s=[99,111,110,116,105,110,117,101])||decide (s=[114,101,116,117,114,110])||decide (s=[103,111,116,111])||decide (s=[114,101,97,100])||decide (s=[112,114,105,110,116])
theorem O6(s:Str):SpecP prog 172 [.str s] (fun r=>r=.bool (W6 s)):=by
 refine sB TP func172 rfl call172 ?_;conv=>whnf
 repeat' (apply bB<;>intro _<;>conv=>whnf)
 all_goals first
  |exact RetK.tt (by simp_all[W6])
  |exact RetK.ff (by simp_all[W6])
def isName(s:Str):Bool:=if h:1<=s.length/\s.length<=8 then YO (s[0]'(by omega))&&decide (JM s 0=s.length) && !W6 s else false
theorem Qx(s:Str):SpecP prog 112 [.str s] (fun r=>r=.bool (isName s)):=by
 refine sB TB func112 rfl call112 ?_;conv=>whnf
 repeat' (first|((first|(refine iM fun _=>?_)|refine cP (Gy _) ?_|refine cP (q3f _ 0 (x3z _)) ?_|refine cP (O6 _) ?_|(refine ByteK.at (k:=0) (by omega) ?_));conv=>whnf)|(apply bD<;>intro _<;>first|omega|conv=>whnf)|(apply bN<;>intro _<;>conv=>whnf))
 ·exact RetK.ff (by unfold isName;rw[dif_neg (by omega)])
 ·exact RetK.ff (by unfold isName;rw[dif_neg (by omega)])
 ·exact RetK.bool (by unfold isName;rw[dif_pos (by omega)];simp_all;omega)
 ·exact RetK.ff (by unfold isName;rw[dif_pos (by omega)];simp_all;omega)
 ·exact RetK.ff (by unfold isName;rw[dif_pos (by omega)];simp_all)
def namesB(l:List Str):Bool:=l.all isName
theorem Zv(l:List Str):SpecP prog 111 [eStrs l] (fun r=>r=.bool (namesB l)):=by
 refine sB Bi func111 rfl call111 ?_;conv=>whnf
 refine iM fun _=>?_;conv=>whnf
 refine LoopK.inv QY (fun j:Nat=>⟨[(5,.p (eStrs l)),(6,.p (.int .i64 (l.map AV.str).length)),(7,.p (.int .i64 j))],[]⟩) (fun j=>j<=l.length/\(l.drop j).all isName=namesB l) (fun j=>l.length-j) 0 (Le.of_eq rfl) ⟨x3z _,rfl⟩ ?_;rintro j ⟨h2,h3⟩;have hl:(l.map AV.str).length=l.length:=x2m _;conv=>whnf
 repeat' (first|((first|refine cP (Qx _) ?_|(refine iA fun _=>?_)|refine wI ?_);conv=>whnf)|(apply bD<;>intro _<;>first|omega|conv=>whnf)|(apply bN<;>intro _<;>conv=>whnf))
 ·exact⟨j+1,⟨by omega,by rw[HW (by omega) (by assumption)];exact h3⟩,by omega,Le.of_eq rfl⟩
 ·exact RetK.ff (by rw[<-h3,Zt (by omega) (by assumption)])
 ·exact RetK.tt (by rw[<-h3,HZ (by omega)])
def Wa(op:Int):Int:=if op=1\/op=2 then 0 else if op=3\/op=4 then 1 else if 5<=op/\op<=17 then 2 else -1
theorem EK(op:Int):SpecP prog 256 [.int .i64 op] (fun r=>r=.int .i64 (Wa op)):=by
 refine sB L9 func256 rfl call256 ?_;conv=>whnf
 repeat' (apply bD<;>intro _<;>first|omega|conv=>whnf)
 all_goals exact RetK.int (by unfold Wa;(repeat' split)<;>omega)
def VD:Nat->X->Bool
 |0,_=>false
 |n+1,x=>decide ((x.kids.length:Int)=Wa x.op)&&(if x.op=1 then decide (0<=x.n)&&(x.name==[])else if x.op=2 then decide (x.n=0)&&isName x.name else decide (x.n=0)&&(x.name==[])&&x.kids.all (VD n))
theorem EJ:∀(n:Nat)(_:n<=1000)(x:X),SpecP prog 233 [.agg x.cells,.int .i64 n] (fun r=>r=.bool (VD n x)):=by
 intro n;induction n with
 | zero=>
   intro _ x;refine sB Vs func233 rfl call233 ?_;conv=>whnf
   repeat' (first|(refine dA ?_;conv=>whnf)|(apply bD<;>intro _<;>first|omega|conv=>whnf))
   exact RetK.ff rfl
 | succ n ih=>
   intro hn x;refine sB Vs func233 rfl call233 ?_;conv=>whnf
   repeat' (first|((first|(refine iM fun _=>?_)|refine cP (EK _) ?_|refine cP (Qx _) ?_|refine dA ?_);conv=>whnf)|(apply bD<;>intro _<;>first|omega|conv=>whnf)|(apply bE<;>intro _<;>first|omega|conv=>whnf)|(apply bN<;>intro _<;>conv=>whnf))
   all_goals try (have hk:((X.avs x.kids).length:Int)=x.kids.length:=by rw[X.avs_len])
   ·exact RetK.bool (by simp_all[VD])
   ·exact RetK.ff (by simp_all[VD];try omega)
   ·exact RetK.bool (by simp_all[VD])
   ·exact RetK.ff (by simp_all[VD];try omega)
   ·have h0:VD (n+1) x=x.kids.all (VD n):=by simp_all[VD]
    rw[h0];refine LoopK.inv QY (fun j:Nat=>⟨[(1,.p (.int .i64 (n+1:Nat))),(49,.p (.sl (X.avs x.kids))),(50,.p (.int .i64 (X.avs x.kids).length)),(51,.p (.int .i64 j))],[]⟩) (fun j=>j<=x.kids.length/\(x.kids.drop j).all (VD n)=x.kids.all (VD n)) (fun j=>x.kids.length-j) 0 (Le.of_eq rfl) ⟨x3z _,rfl⟩ ?_;rintro j ⟨h2,h3⟩;conv=>whnf
    repeat' (first|((first|refine x2t rfl ?_|refine IdxK.xs (by omega) ?_|refine wI ?_|(refine CallK.pure (ih (by omega) _) (.cons (Sub.refl _) (.cons (Sub.int (by omega)) .nil)) ?_;rintro _ rfl));conv=>whnf)|(apply bD<;>intro _<;>first|omega|conv=>whnf)|(apply bN<;>intro _<;>conv=>whnf))
    ·exact⟨j+1,⟨by omega,by rw[HW (by omega) (by assumption)];exact h3⟩,by omega,Le.of_eq rfl⟩
    ·exact RetK.ff (by rw[<-h3,Zt (by omega) (by assumption)])
    ·exact RetK.tt (by rw[<-h3,HZ (by omega)])
   ·exact RetK.ff (by simp_all[VD];try omega)
   ·exact RetK.ff (by simp_all[VD];try omega)
   ·exact RetK.ff (by simp_all[VD];try omega)
def Aa(x:X):Bool:=VD 20 x
theorem BZ(x:X):SpecP prog 190 [.agg x.cells] (fun r=>r=.bool (Aa x)):=by
 refine sB Jm func190 rfl call190 ?_;conv=>whnf
 repeat' (refine cP (EJ 20 (by omega) _) ?_;conv=>whnf)
 exact RetK.p rfl
def noneB(x:X):Bool:=decide (x.op=0)&&decide (x.n=0)&&(x.name==[])&&((x.kids.length:Int)==0)
theorem EG(x:X):SpecP prog 247 [.agg x.cells] (fun r=>r=.bool (noneB x)):=by
 refine sB Lq func247 rfl call247 ?_;conv=>whnf
 repeat' (first|(refine iM fun _=>?_;conv=>whnf)|(apply bD<;>intro _<;>first|omega|conv=>whnf)|(apply bB<;>intro _<;>conv=>whnf))
 all_goals have hk:((X.avs x.kids).length:Int)=x.kids.length:=by rw[X.avs_len]
 all_goals first
  |exact RetK.ff (by simp_all[noneB])
  |exact RetK.bool (by simp_all[noneB])
def YT(s:Str)(is:Bool):Bool:=bif is then isName s else s==[]
theorem Hu(s:Str)(is:Bool):SpecP prog 215 [.str s,.bool is] (fun r=>r=.bool (YT s is)):=by
 refine sB Be func215 rfl call215 ?_;conv=>whnf
 repeat' (first|(refine cP (Qx _) ?_;conv=>whnf)|(apply bN<;>intro _<;>conv=>whnf)|(apply bB<;>intro _<;>conv=>whnf))
 all_goals first
  |exact RetK.tt (by simp_all[YT])
  |exact RetK.ff (by simp_all[YT])
  |exact RetK.bool (by simp_all[YT])
def FJ(x:X)(is:Bool):Bool:=bif is then Aa x else noneB x
theorem Hy(x:X)(is:Bool):SpecP prog 216 [.agg x.cells,.bool is] (fun r=>r=.bool (FJ x is)):=by
 refine sB Bo func216 rfl call216 ?_;conv=>whnf
 repeat' (first|((first|refine cP (BZ _) ?_|refine cP (EG _) ?_);conv=>whnf)|(apply bN<;>intro _<;>conv=>whnf)|(apply bB<;>intro _<;>conv=>whnf))
 all_goals first
  |exact RetK.tt (by simp_all[FJ])
  |exact RetK.ff (by simp_all[FJ])
  |exact RetK.bool (by simp_all[FJ])
def Q6(a:Arg):Bool:=YT a.name a.ref&&FJ a.x (!a.ref)
theorem Rp(l:List Arg):SpecP prog 217 [CX l] (fun r=>r=.bool (l.all Q6)):=by
 refine sB Ho func217 rfl call217 ?_;conv=>whnf
 refine iM fun _=>?_;conv=>whnf
 refine LoopK.inv QY (fun j:Nat=>⟨[(5,.p (CX l)),(6,.p (.int .i64 (l.map fun a=>AV.agg a.cells).length)),(7,.p (.int .i64 j))],[]⟩) (fun j=>j<=l.length/\(l.drop j).all Q6=l.all Q6) (fun j=>l.length-j) 0 (Le.of_eq rfl) ⟨x3z _,rfl⟩ ?_;rintro j ⟨h2,h3⟩;have hl:(l.map fun a=>AV.agg a.cells).length=l.length:=x2m _;conv=>whnf
 repeat' (first|((first|refine cP (Hu _ _) ?_|refine cP (Hy _ _) ?_|refine x2t rfl ?_|(refine iA fun _=>?_)|refine wI ?_);conv=>whnf)|(apply bD<;>intro _<;>first|omega|conv=>whnf)|(apply bN<;>intro _<;>conv=>whnf))
 ·exact⟨j+1,⟨by omega,by rw[HW (by omega) (by simp_all[Q6])];exact h3⟩,by omega,Le.of_eq rfl⟩
 ·exact RetK.ff (by rw[<-h3,Zt (by omega) (by simp_all[Q6])])
 ·exact RetK.ff (by rw[<-h3,Zt (by omega) (by simp_all[Q6])])
 ·exact RetK.tt (by rw[<-h3,HZ (by omega)])
structure Flds where
 name:Bool
 proc:Bool
 x:Bool
 has:Bool
 thn:Bool
 els:Bool
def Q1(k:Int)(has:Bool)(noName:Bool):Option Flds:=
 if k=1 then some ⟨true,false,true,has,false,false⟩
 else if k=2 then some ⟨true,false,false,has,false,false⟩
 else if k=10 then some ⟨true,false,false,has,false,false⟩
 else if k=3 then some ⟨false,false,true,has,false,false⟩
 else if k=4 then some ⟨!noName,true,false,has,false,false⟩
 else if k=5 then some ⟨false,false,true,has,true,true⟩
 else if k=6 then some ⟨false,false,true,has,true,false⟩
 else if k=9 then some ⟨false,false,has,false,false,false⟩
 else if k=7 then some ⟨false,false,false,has,false,false⟩
 else if k=8 then some ⟨false,false,false,has,false,false⟩
 else none
def XA(s:S):Bool:=
 match Q1 s.kind s.has (s.name==[])with
 |none=>false
 |some f=> !(f.has||(!f.thn&&decide (0<s.thn.length))||(!f.els&&decide (0<s.els.length))||(!decide (s.kind=4)&&decide (0<s.args.length)))&&YT s.name f.name&&YT s.proc f.proc&&FJ s.x f.x&&s.args.all Q6
theorem Kb{s:S}{f:Flds}(h:Q1 s.kind s.has (s.name==[])=some f):XA s=(!(f.has||(!f.thn&&decide (0<s.thn.length))||(!f.els&&decide (0<s.els.length))||(!decide (s.kind=4)&&decide (0<s.args.length)))&&YT s.name f.name&&YT s.proc f.proc&&FJ s.x f.x&&s.args.all Q6):=by
 unfold XA;rw[h]
theorem Rb(s:S):SpecP prog 173 [.agg s.cells] (fun r=>r=.bool (XA s)):=by
 refine sB Ha func173 rfl call173 ?_;conv=>whnf
 repeat' (first|((first|(refine iM fun _=>?_)|refine cP (Hu _ _) ?_|refine cP (Hy _ _) ?_|refine cP (Rp _) ?_|refine dA ?_);conv=>whnf)|(apply bD<;>intro _<;>first|omega|conv=>whnf)|(apply bE<;>intro _<;>first|omega|conv=>whnf)|(apply bN<;>intro _<;>conv=>whnf)|(apply bB<;>intro _<;>conv=>whnf))
 all_goals first
  |exact RetK.ff (by simp_all[XA,Q1,S.avs_len])
  |exact RetK.bool (by simp_all[XA,Q1,S.avs_len])
  |exact RetK.ff (by simp_all[XA,Q1,S.avs_len];omega)
mutual
def Jb(nest seen:Int):S->Option Int
 | .mk id kind labels name proc x has args thn els=>
   if seen+1>200 then none else if id≠seen+1 then none else
   bif namesB labels then bif XA (.mk id kind labels name proc x has args thn els)then
    match WY (nest+1) (seen+1) thn with
    |some m=>WY (nest+1) m els
    |none=>none
   else none else none
def WY(nest seen:Int):List S->Option Int
 |[]=>some seen
 | s::r=>if nest>12 then none else match Jb nest seen s with
   |some m=>WY nest m r
   |none=>none
end
theorem Dp(nest seen:Int)(s:S):Jb nest seen s=if seen+1>200 then none else if s.id≠seen+1 then none else
  bif namesB s.labels then bif XA s then
   match WY (nest+1) (seen+1) s.thn with
   |some m=>WY (nest+1) m s.els
   |none=>none
  else none else none:=by
 cases s;rw[Jb];rfl
mutual
theorem q3o(nest seen:Int):∀(s:S){m:Int},Jb nest seen s=some m->seen<m/\m<=200
 | .mk id kind labels name proc x has args thn els,m,h=>by
   simp only[Jb]at h;split at h
   ·cases h
   split at h
   ·cases h
   cases hn:namesB labels<;>rw[hn]at h
   ·cases h
   cases hf:XA (.mk id kind labels name proc x has args thn els)<;>rw[hf]at h
   ·cases h
   simp only[x3p]at h;split at h
   ·rename_i m1 h1;have h2:=Yo (nest+1) (seen+1) thn (by omega) h1;have h3:=Yo (nest+1) m1 els h2.2 h;omega
   ·cases h
theorem Yo(nest seen:Int):∀(l:List S){m:Int},seen<=200->WY nest seen l=some m->seen<=m/\m<=200
 | [],m,h0,h=>by
   simp only[WY]at h;cases h;omega
 | s::r,m,h0,h=>by
   simp only[WY]at h;split at h
   ·cases h
   split at h
   ·rename_i m1 h1;have h2:=q3o nest seen s h1;have h3:=Yo nest m1 r h2.2 h;omega
   ·cases h
end
def Rx(T:Nat)(nest seen:Int)(l:List S)(r:LV)(H:Heap):Prop:=
 match WY nest seen l with
 |some m=>r=.p .tt/\H=[(1000,.obj T [.p (.int .i64 m)])]
 |none=>r=.p .ff/\∃m,H=[(1000,.obj T [.p (.int .i64 m)])]
theorem Gi{m:Int}{l:List S}(h:WY nest seen l=some m):RetHK [(1000,.obj T [.p (.int .i64 m)])] (.p .tt) (Rx T nest seen l):=
 ⟨.p .tt,.refl _,by unfold Rx;rw[h];exact⟨rfl,rfl⟩⟩
theorem Z6{m:Int}{l:List S}(h:WY nest seen l=none):RetHK [(1000,.obj T [.p (.int .i64 m)])] (.p .ff) (Rx T nest seen l):=
 ⟨.p .ff,.refl _,by unfold Rx;rw[h];exact⟨rfl,_,rfl⟩⟩
theorem J0{l:List S}{Q:LV->Heap->Prop}(hs:seen<=200)(h1:∀m,WY nest seen l=some m->seen<=m->m<=200->Q (.p .tt) [(1000,.obj T [.p (.int .i64 m)])])(h2:WY nest seen l=none->∀m,Q (.p .ff) [(1000,.obj T [.p (.int .i64 m)])]):∀l' H',Rx T nest seen l l' H'->Q l' H':=by
 intro l' H' h;unfold Rx at h;cases hr:WY nest seen l with
 | some m=>
   rw[hr]at h;obtain⟨rfl,rfl⟩:=h;have:=Yo nest seen l hs hr;exact h1 m hr this.1 this.2
 | none=>
   rw[hr]at h;obtain⟨rfl,m,rfl⟩:=h;exact h2 hr m
theorem M7{l:List S}(h:nest>12)(hl:0<l.length):WY nest seen l=none:=by
 cases l with
 |nil=>cases hl
 |cons s r=>simp only[WY];rw[if_pos h]
theorem E2{l:List S}(h:¬nest>12)(hj:j<l.length):WY nest seen (l.drop j)=match Jb nest seen l[j]with
  |some m=>WY nest m (l.drop (j+1))
  |none=>none:=by
 rw[QF hj,WY,if_neg h]
theorem EH:∀(d n:Nat)(_:n+d=14)(l:List S)(seen:Int)(_:0<=seen)(_:seen<=200),
  SpecH prog 113 [.ptr 1000 0,.p (eSs l),.p (.int .i64 n)] [(1000,.obj 170 [.p (.int .i64 seen)])] (Rx 170 n seen l):=by
 intro d;induction d with
 | zero=>
   intro n hn l seen h0 h1;refine sH KX func113 rfl call113 ?_;conv=>whnf
   repeat' (first|(refine iM fun _=>?_;conv=>whnf)|(apply bD<;>intro _<;>first|omega|conv=>whnf))
   ·exact Z6 (M7 (by omega) (by rw[S.avs_len]at*;omega))
   ·have hl:=S.avs_len l;obtain rfl:l=[]:=x4e (by omega);refine LoopK.inv QY (fun _:Unit=>⟨[(0,.ptr 1000 0),(2,.p (.int .i64 n)),(16,.p (eSs [])),(17,.p (.int .i64 (S.avs []).length)),(18,.p (.int .i64 0))],[(1000,.obj 170 [.p (.int .i64 seen)])]⟩) (fun _=>True) (fun _=>0) () (Le.of_eq rfl) trivial ?_;intro _ _;conv=>whnf
    repeat' (apply bD<;>intro _<;>first|omega|conv=>whnf)
    exact Gi rfl
 | succ d ih=>
   intro n hn l seen h0 h1;refine sH KX func113 rfl call113 ?_;have hl:=S.avs_len l;conv=>whnf
   repeat' (first|(refine iM fun _=>?_;conv=>whnf)|(apply bD<;>intro _<;>first|omega|conv=>whnf))
   ·exact Z6 (M7 (by omega) (by omega))
   all_goals
    refine LoopK.inv QY (fun i:Nat×Int=>⟨[(0,.ptr 1000 0),(2,.p (.int .i64 n)),(16,.p (eSs l)),(17,.p (.int .i64 (S.avs l).length)),(18,.p (.int .i64 i.1))],[(1000,.obj 170 [.p (.int .i64 i.2)])]⟩) (fun i=>i.1<=l.length/\0<=i.2/\i.2<=200/\WY n i.2 (l.drop i.1)=WY n seen l) (fun i=>l.length-i.1) (0,seen) (Le.of_eq rfl) ⟨x3z _,h0,h1,rfl⟩ ?_;rintro⟨j,m⟩ ⟨h2,h3,h4,h5⟩;simp only at h2 h3 h4 h5⊢;conv=>whnf
    repeat' (first|((first|refine cP (Zv _) ?_|refine cP (Rb _) ?_|refine dA ?_|refine x2t rfl ?_|refine QX (by omega) ?_|refine wI ?_);conv=>whnf)|(apply bD<;>intro _<;>first|omega|conv=>whnf)|(apply bE<;>intro _<;>first|omega|conv=>whnf)|(apply bN<;>intro _<;>conv=>whnf)|(refine CallK.heap [(1000,1000)] 0 (by repeat' (first|exact x4x|refine x3d ?_ ?_|exact x3n _|exact x3e Sub.nils|exact x3e (Sub.tt rfl)|exact x3e (Sub.ff rfl)|exact x3e (Sub.int (by omega)))) (by refine x3j (j:=1000) rfl rfl ?_ ?_;exact CSub.refl _;exact x4z) (ih (n+1) (by omega) _ _ (by omega) (by omega)) rfl rfl (J0 (by omega) (fun _ _ _ _=>?_) (fun _ _=>?_))<;>conv=>whnf))
    all_goals try (have hst:=E2 (seen:=m) (l:=l) (j:=j) (nest:=(n:Int)) (by omega) (by omega);rw[Dp,show(n:Int)+1=((n+1:Nat):Int)from rfl]at hst)
    all_goals first
     |exact Gi (by rw[<-h5,x3b (by omega)];simp only[WY])
     |exact Z6 (by rw[<-h5,hst];clear h5 hst;first|rw[if_pos (by omega:m+1>200)]|(rw[if_neg (by omega:¬m+1>200)];simp[*,-Int.natCast_add]))
     |exact⟨(j+1,_),⟨by simp only;omega,by simp only;omega,by simp only;omega,by rw[<-h5,hst];clear h5 hst;first|rw[if_pos (by omega:m+1>200)]|(rw[if_neg (by omega:¬m+1>200)];simp[*,-Int.natCast_add])⟩,by simp only;omega,Le.of_eq rfl⟩
def JX(f:Pr):Bool:=decide (f.params.length<=8)&&decide (f.vars.length<=16)&&isName f.name&&namesB f.vars&&namesB f.fin&&f.params.all fun a=>isName a.name
def XG(seen:Int):List Pr->Option Int
 |[]=>some seen
 | f::r=>bif JX f then match WY 1 seen f.body with
    |some m=>XG m r
    |none=>none
   else none
def YL(p:Pg):Bool:=decide (p.globals.length<=16)&&decide (p.procs.length<=16)&&namesB p.globals&&(XG 0 p.procs).isSome
theorem Yj{l:List Pr}(hj:j<l.length):XG seen (l.drop j)=bif JX l[j]then match WY 1 seen l[j].body with
   |some m=>XG m (l.drop (j+1))
   |none=>none
  else none:=by
 rw[QF hj,XG]
theorem WC{f:Pr}:JX f=true↔f.params.length<=8/\f.vars.length<=16/\isName f.name=true/\namesB f.vars=true/\namesB f.fin=true/\(f.params.all fun a=>isName a.name)=true:=by
 simp only[JX,x3h,x3i,and_assoc]
theorem Yu{l:List Pr}(hj:j<l.length)(h:¬(l[j].params.length<=8/\l[j].vars.length<=16/\isName l[j].name=true/\namesB l[j].vars=true/\namesB l[j].fin=true/\(l[j].params.all fun a=>isName a.name)=true)):(XG seen (l.drop j)).isSome=false:=by
 rw[Yj hj];have:JX l[j]=false:=by rw[x8j];intro hm;exact h (WC.1 hm)
 rw[this];rfl
theorem Do(p:Pg):SpecP prog 58 [.agg p.cells] (fun r=>r=.bool (YL p)):=by
 refine sB TL func58 rfl call58 ?_;conv=>whnf
 repeat' (first|((first|(refine iM fun _=>?_)|refine cP (Zv _) ?_|refine x2t rfl ?_);conv=>whnf)|(apply bD<;>intro _<;>first|omega|conv=>whnf)|(apply bN<;>intro _<;>conv=>whnf))
 all_goals try have hl1:(p.globals.map AV.str).length=p.globals.length:=x2m _
 all_goals try have hl2:(p.procs.map fun f=>AV.agg f.cells).length=p.procs.length:=x2m _
 ·exact RetK.ff (by unfold YL;simp;omega)
 ·exact RetK.ff (by unfold YL;simp;omega)
 ·have h0:YL p=(XG 0 p.procs).isSome:=by unfold YL;simp[*];omega
  rw[h0];refine LoopK.inv QY (fun i:Nat×Int=>⟨[(3,.ptr 0 0),(27,.p (.sl (p.procs.map fun f=>AV.agg f.cells))),(28,.p (.int .i64 (p.procs.map fun f=>AV.agg f.cells).length)),(29,.p (.int .i64 i.1))],[(0,.obj 170 [.p (.int .i64 i.2)])]⟩) (fun i=>i.1<=p.procs.length/\0<=i.2/\i.2<=200/\XG i.2 (p.procs.drop i.1)=XG 0 p.procs) (fun i=>p.procs.length-i.1) (0,0) (Le.of_eq rfl) ⟨x3z _,by decide,by decide,rfl⟩ ?_;rintro⟨j,m⟩ ⟨h2,h3,h4,h5⟩;simp only at h2 h3 h4 h5⊢;conv=>whnf
  repeat' (first|((first|(refine iM fun _=>?_)|refine cP (Zv _) ?_|refine cP (Qx _) ?_|refine x2t rfl ?_|(refine iA fun _=>?_));conv=>whnf)|(apply bD<;>intro _<;>first|omega|conv=>whnf)|(apply bN<;>intro _<;>conv=>whnf))
  all_goals try have hl3:((p.procs[j]'(by omega)).params.map fun a=>AV.agg a.cells).length=(p.procs[j]'(by omega)).params.length:=x2m _
  all_goals try have hl4:((p.procs[j]'(by omega)).vars.map AV.str).length=(p.procs[j]'(by omega)).vars.length:=x2m _
  rotate_left 2
  ·have hj:j<p.procs.length:=by omega
   refine LoopK.inv QY (fun i:Nat=>⟨[(3,.ptr 0 0),(5,.p (.ip p.procs[j].cells)),(27,.p (.sl (p.procs.map fun f=>AV.agg f.cells))),(28,.p (.int .i64 (p.procs.map fun f=>AV.agg f.cells).length)),(29,.p (.int .i64 j)),(62,.p (.sl (p.procs[j].params.map fun a=>AV.agg a.cells))),(63,.p (.int .i64 (p.procs[j].params.map fun a=>AV.agg a.cells).length)),(64,.p (.int .i64 i))],[(0,.obj 170 [.p (.int .i64 m)])]⟩) (fun i=>i<=p.procs[j].params.length/\((p.procs[j].params.drop i).all fun a=>isName a.name)=p.procs[j].params.all fun a=>isName a.name) (fun i=>p.procs[j].params.length-i) 0 (Le.of_eq rfl) ⟨x3z _,rfl⟩ ?_;rintro i ⟨h6,h7⟩;conv=>whnf
   repeat' (first|((first|refine cP (Qx _) ?_|refine x2t rfl ?_|(refine iA fun _=>?_)|refine wI ?_);conv=>whnf)|(apply bD<;>intro _<;>first|omega|conv=>whnf)|(apply bN<;>intro _<;>conv=>whnf)|(refine CallK.heap [(1000,0)] 0 (by repeat' (first|exact x4x|refine x3d ?_ ?_|exact x3n _|exact x3e Sub.nils|exact x3e (Sub.tt rfl)|exact x3e (Sub.ff rfl)|exact x3e (Sub.int (by omega)))) (by refine x3j (j:=0) rfl rfl ?_ ?_;exact CSub.refl _;exact x4z) (EH 13 1 rfl _ _ (by omega) (by omega)) rfl rfl (J0 (by omega) (fun _ _ _ _=>?_) (fun _ _=>?_))<;>conv=>whnf))
   ·exact⟨i+1,⟨by omega,by rw[<-h7,HW (p:=fun a:Param=>isName a.name) (by omega) (by assumption)]⟩,by omega,Le.of_eq rfl⟩
   ·exact RetK.ff (by
     rw[<-h5];refine Yu hj fun h=>?_;have:=Zt (p:=fun a:Param=>isName a.name) (l:=p.procs[j].params) (j:=i) (by omega) (by assumption);rw[h7,h.2.2.2.2.2]at this;cases this)
   all_goals
    have hall:(p.procs[j].params.all fun a=>isName a.name)=true:=by rw[<-h7,HZ (by omega)]
    have hp:JX p.procs[j]=true:=WC.2 ⟨by omega,by omega,by assumption,by assumption,by assumption,hall⟩;have hst:=Yj (seen:=m) hj;rw[hp,x3p]at hst
   ·rename_i m2 hrow _ _;replace hrow:WY 1 m p.procs[j].body=some m2:=hrow;rw[hrow]at hst;exact⟨(j+1,m2),⟨by simp only;omega,by simp only;omega,by simp only;omega,by rw[<-h5,hst]⟩,by simp only;omega,Le.of_eq rfl⟩
   ·rename_i hrow _;replace hrow:WY 1 m p.procs[j].body=none:=hrow;rw[hrow]at hst;exact RetK.ff (by rw[<-h5,hst];rfl)
  all_goals first
   |exact RetK.tt (by rw[<-h5,x3b (by omega)];rfl)
   |exact RetK.ff (by rw[<-h5];exact Yu (by omega) fun h=>by omega)
   |exact RetK.ff (by rw[<-h5];exact Yu (by omega) fun h=>by simp_all)
 ·exact RetK.ff (by unfold YL;simp[*])
theorem WV(l:List Str)(v:Str):SpecP prog 126 [eStrs l,.str v] (fun r=>r=.int .i64 (Xc (fun s=>v==s) l)):=by
 refine sB YH func126 rfl call126 ?_;conv=>whnf
 refine iM fun _=>?_;have hl:(l.map AV.str).length=l.length:=x2m _;conv=>whnf
 refine LoopK.inv QY (fun j:Nat=>⟨[(0,.p (eStrs l)),(1,.p (.str v)),(7,.p (.int .i64 (l.map AV.str).length)),(8,.p (.int .i64 j))],[]⟩) (fun j=>j<=l.length/\(l.drop j).any (fun s=>v==s)=l.any (fun s=>v==s)/\l.findIdx (fun s=>v==s)=j+(l.drop j).findIdx (fun s=>v==s)) (fun j=>l.length-j) 0 (Le.of_eq rfl) ⟨x3z _,rfl,by simp⟩ ?_;rintro j ⟨h2,h3,h4⟩;conv=>whnf
 repeat' (first|((first|(refine iA fun _=>?_)|refine wI ?_);conv=>whnf)|(apply bD<;>intro _<;>first|omega|conv=>whnf)|(apply bB<;>intro _<;>conv=>whnf))
 ·exact RetK.int (Fa (p:=fun s=>v==s) (by omega) (by assumption) h3 h4).symm
 ·exact⟨j+1,⟨by omega,by rw[<-h3,Kz (p:=fun s=>v==s) (by omega) (by assumption)],by rw[h4,q2m (p:=fun s=>v==s) (by omega) (by assumption)];omega⟩,by omega,Le.of_eq rfl⟩
 ·exact RetK.int (by rw[Ld];rw[<-h3,Xf (by omega)])
theorem QW(l:List Str)(v:Str):SpecP prog 114 [eStrs l,.str v] (fun r=>r=.bool (l.any fun s=>v==s)):=by
 refine sB UY func114 rfl call114 ?_;conv=>whnf
 repeat' (refine cP (WV _ _) ?_;conv=>whnf)
 exact RetK.bool Y2
def ZN(l:List Str):Bool:=(List.range l.length).any fun i=>(l.take i).any fun s=>l[i]?.getD []==s
theorem MU(l:List Str):SpecP prog 127 [eStrs l] (fun r=>r=.bool (ZN l)):=by
 refine sB Hr func127 rfl call127 ?_;conv=>whnf
 refine iM fun _=>?_;have hl:(l.map AV.str).length=l.length:=x2m _;conv=>whnf
 refine LoopK.inv QY (fun j:Nat=>⟨[(0,.p (eStrs l)),(5,.p (eStrs l)),(6,.p (.int .i64 (l.map AV.str).length)),(7,.p (.int .i64 j))],[]⟩) (fun j=>j<=l.length/\((List.range l.length).drop j).any (fun i=>(l.take i).any fun s=>l[i]?.getD []==s)=ZN l) (fun j=>l.length-j) 0 (Le.of_eq rfl) ⟨x3z _,rfl⟩ ?_;rintro j ⟨h2,h3⟩;conv=>whnf
 repeat' (first|((first|(refine iA fun _=>?_)|refine wI ?_|refine x2t (fun e he=>by obtain⟨x,_,rfl⟩:=x3q.1 he;rfl) (SlK.mk 0 j rfl rfl (by omega) (by omega) ?_)|(refine CallK.pure (QW (l.take j) (l[j]'(by omega))) (.cons (Sub.of_eq (by simp[eStrs,List.map_take])) (.cons (Sub.refl _) .nil)) ?_;rintro _ rfl));conv=>whnf)|(apply bD<;>intro _<;>first|omega|conv=>whnf)|(apply bB<;>intro _<;>conv=>whnf))
 all_goals try have hr:(List.range l.length)[j]'(by simp;omega)=j:=by simp
 all_goals try have e:l[j]?.getD []=l[j]'(by omega):=by rw[x2n (by omega)];rfl
 ·exact RetK.tt (by rw[<-h3,F9 (p:=fun i=>(l.take i).any fun s=>l[i]?.getD []==s) (by simp;omega) (by rw[hr,e];assumption)])
 ·exact⟨j+1,⟨by omega,by rw[<-h3,Kz (p:=fun i=>(l.take i).any fun s=>l[i]?.getD []==s) (by simp;omega) (by rw[hr,e];assumption)]⟩,by omega,Le.of_eq rfl⟩
 ·exact RetK.ff (by rw[<-h3,Xf (by simp;omega)])
def Jd(f:Pr):List Str:=f.params.map Param.name++f.vars
theorem E8(f:Pr)(h1:f.params.length<=1000)(h2:f.vars.length<=1000):SpecP prog 128 [.agg f.cells] (fun r=>r=eStrs (Jd f)):=by
 refine sB L7 func128 rfl call128 ?_;conv=>whnf
 refine iM fun _=>?_;have hl:(f.params.map fun a=>AV.agg a.cells).length=f.params.length:=x2m _;conv=>whnf
 refine LoopK.inv QY (fun j:Nat=>⟨[(1,.p (.ip f.cells)),(3,.hd 0 0 j),(7,.p (.sl (f.params.map fun a=>AV.agg a.cells))),(8,.p (.int .i64 (f.params.map fun a=>AV.agg a.cells).length)),(9,.p (.int .i64 j))],[(0,.own 9 1 ((f.params.take j).map fun a=>AV.str a.name))]⟩) (fun j=>j<=f.params.length) (fun j=>f.params.length-j) 0
  (Le.mk [(0,.own 9 1 [])] (by simp[Chunk.new0];rfl) (by simp) (by simp) (.r (.cons (.nil x2r) (.r (.r (.r .nil))))) (.new x2r .nil)) (x3z _) ?_
 intro j h3;conv=>whnf
 repeat' (first|((first|refine x2t rfl ?_|refine aD ?_|refine bP ?_|(refine iA fun _=>?_)|refine wI ?_|refine x6y (by simp;omega) rfl (by show(j+1)*16<=140737488355328;omega) (by show j+1<=9223372036854775807;omega) (fun x hx=>by rcases x2a.1 hx with rfl;exact⟨rfl,rfl⟩) ?_|refine x6y (by simp;omega) rfl (by rw[x2m];show(j+f.vars.length)*16<=140737488355328;omega) (by rw[x2m];show j+f.vars.length<=9223372036854775807;omega) (fun x hx=>by obtain⟨y,_,rfl⟩:=x3q.1 hx;exact⟨rfl,rfl⟩) ?_);conv=>whnf)|(apply bD<;>intro _<;>first|omega|conv=>whnf))
 ·exact⟨j+1,by omega,by omega,Le.of_eq (by rw[q0z (by omega)];rfl)⟩
 ·refine⟨_,.hd rfl (by simp;omega),?_⟩;rw[x3f (by omega)];simp[eStrs,Jd]
mutual
def ZW:S->Nat
 |.mk _ _ _ _ _ _ _ _ thn els=>1+cntL thn+cntL els
def cntL:List S->Nat
 |[]=>0
 |s::r=>ZW s+cntL r
end
theorem ZV(s:S):ZW s=1+cntL s.thn+cntL s.els:=by
 cases s;rw[ZW];rfl
theorem LL{l:List S}(hj:j<l.length):cntL (l.drop j)=ZW l[j]+cntL (l.drop (j+1)):=by
 rw[QF hj,cntL]
theorem Ro{l:List S}(hj:l.length<=j):cntL (l.drop j)=0:=by
 rw[x3b hj,cntL]
theorem CD:∀(n:Nat)(_:n<=100000)(s:S)(_:ZW s<=n),SpecP prog 175 [.agg s.cells] (fun r=>r=.int .i64 (ZW s)):=by
 intro n;induction n with
 |zero=>intro _ s h;rw[ZV]at h;omega
 | succ n ih=>
   intro hn s h;have hs:=ZV s;have hl1:=S.avs_len s.thn;have hl2:=S.avs_len s.els;refine sB L3 func175 rfl call175 ?_;conv=>whnf
   repeat' (refine iM fun _=>?_;conv=>whnf)
   refine LoopK.inv QY (fun i:Nat×Nat=>⟨[(1,.p (.ip s.cells)),(3,.p (.int .i64 i.2)),(9,.p (eSs s.thn)),(10,.p (.int .i64 (S.avs s.thn).length)),(11,.p (.int .i64 i.1))],[]⟩) (fun i=>i.1<=s.thn.length/\1<=i.2/\i.2+cntL (s.thn.drop i.1)=1+cntL s.thn) (fun i=>s.thn.length-i.1) (0,1) (Le.of_eq rfl) ⟨x3z _,x3g _,rfl⟩ ?_;rintro⟨j,a⟩ ⟨h2,h4,h3⟩;simp only at h2 h3 h4⊢;have hst:∀hj:j<s.thn.length,cntL (s.thn.drop j)=ZW s.thn[j]+cntL (s.thn.drop (j+1)):=fun hj=>LL hj;conv=>whnf
   repeat' (first|((first|(refine iM fun _=>?_)|refine x2t rfl ?_|refine QX (by omega) ?_|refine wI ?_|(refine CallK.pure (ih (by omega) (s.thn[j]'(by omega)) (by have:=hst (by omega);omega)) (.cons (Sub.refl _) .nil) ?_;rintro _ rfl;have hst:=hst (by omega)));conv=>whnf)|(apply bD<;>intro _<;>first|omega|conv=>whnf))
   ·exact⟨(j+1,a+ZW s.thn[j]),⟨by simp only;omega,by simp only;omega,by simp only;omega⟩,by simp only;omega,Le.of_eq rfl⟩
   ·have ha:a=1+cntL s.thn:=by rw[Ro (by omega)]at h3;omega
    refine LoopK.inv QY (fun i:Nat×Nat=>⟨[(3,.p (.int .i64 i.2)),(21,.p (eSs s.els)),(22,.p (.int .i64 (S.avs s.els).length)),(23,.p (.int .i64 i.1))],[]⟩) (fun i=>i.1<=s.els.length/\1<=i.2/\i.2+cntL (s.els.drop i.1)=ZW s) (fun i=>s.els.length-i.1) (0,a) (Le.of_eq rfl) ⟨x3z _,h4,by simp only[x9t];omega⟩ ?_;rintro⟨k,b⟩ ⟨h5,h6,h7⟩;simp only at h5 h6 h7⊢;have hst2:∀hk:k<s.els.length,cntL (s.els.drop k)=ZW s.els[k]+cntL (s.els.drop (k+1)):=fun hk=>LL hk;conv=>whnf
    repeat' (first|((first|refine x2t rfl ?_|refine QX (by omega) ?_|refine wI ?_|(refine CallK.pure (ih (by omega) (s.els[k]'(by omega)) (by have:=hst2 (by omega);omega)) (.cons (Sub.refl _) .nil) ?_;rintro _ rfl;have hst2:=hst2 (by omega)));conv=>whnf)|(apply bD<;>intro _<;>first|omega|conv=>whnf))
    ·exact⟨(k+1,b+ZW s.els[k]),⟨by simp only;omega,by simp only;omega,by simp only;omega⟩,by simp only;omega,Le.of_eq rfl⟩
    ·exact RetK.int (by rw[Ro (by omega)]at h7;omega)
structure Item where
 s:S
 proc:Int
 up:Int
 next:Int
 loop:Int
def Item.cells(i:Item):List AV:=i.s.cells++[.int .i64 i.proc,.int .i64 i.up,.int .i64 i.next,.int .i64 i.loop]
mutual
def Vk(proc up nx loop:Int)(acc:List Item):S->List Item
 | .mk id kind labels name pr x has args thn els=>
   XK proc (acc.length+1) (if kind=6 then acc.length+1 else nx) (if kind=6 then acc.length+1 else loop)
    (XK proc (acc.length+1) (if kind=6 then acc.length+1 else nx) (if kind=6 then acc.length+1 else loop) (acc++[⟨.mk id kind labels name pr x has args thn els,proc,up,nx,loop⟩]) thn) els
def XK(proc up nx loop:Int)(acc:List Item):List S->List Item
 |[]=>acc
 |t::r=>XK proc up nx loop (Vk proc up (if r.isEmpty then nx else acc.length+1+ZW t) loop acc t) r
end
theorem DC(proc up nx loop:Int)(acc:List Item)(t:S):Vk proc up nx loop acc t=XK proc (acc.length+1) (if t.kind=6 then acc.length+1 else nx) (if t.kind=6 then acc.length+1 else loop)
   (XK proc (acc.length+1) (if t.kind=6 then acc.length+1 else nx) (if t.kind=6 then acc.length+1 else loop) (acc++[⟨t,proc,up,nx,loop⟩]) t.thn) t.els:=by
 cases t;rw[Vk];rfl
mutual
theorem ZQ(proc up nx loop:Int)(acc:List Item):∀t:S,(Vk proc up nx loop acc t).length=acc.length+ZW t
 | .mk id kind labels name pr x has args thn els=>by
   rw[Vk,ZW,XX _ _ _ _ _ els,XX _ _ _ _ _ thn];simp;omega
theorem XX(proc up nx loop:Int)(acc:List Item):∀l:List S,(XK proc up nx loop acc l).length=acc.length+cntL l
 |[]=>by rw[XK,cntL];rfl
 | t::r=>by
   rw[XK,cntL,XX _ _ _ _ _ r,ZQ _ _ _ _ _ t];omega
end
theorem VH{proc up nx loop:Int}{acc:List Item}{l:List S}(hj:j<l.length):
  XK proc up nx loop acc (l.drop j)=XK proc up nx loop (Vk proc up (if j+1<l.length then acc.length+1+ZW l[j]else nx) loop acc l[j]) (l.drop (j+1)):=by
 rw[QF hj,XK];congr 2;by_cases h:j+1<l.length
 ·rw[if_pos h,if_neg];simp only[List.isEmpty_iff];intro he;have:=x5u List.length he;simp at this;omega
 ·rw[if_neg h,if_pos];rw[x3b (by omega)];rfl
def Ez(tS tI tN:Nat)(gl pr:AV)(L:List Item)(lo hi:List Int):Heap:=
 [(1000,.obj tS [.p gl,.p pr,.hd 2000 0 L.length,.hd 2001 0 lo.length,.hd 2002 0 hi.length]),(2000,.own tI 17 (L.map fun i=>.agg i.cells)),(2001,.own tN 1 (lo.map (.int .i64))),(2002,.own tN 1 (hi.map (.int .i64)))]
def X0:X:=.mk 0 0 [] []
def S0:S:=.mk 0 0 [] [] [] X0 false [] [] []
theorem LSub.agg{cs ds:List AV}(h:SubL cs ds):LSub (.p (.agg cs)) (.p (.agg ds)):=.p (Sub.agg h)
theorem RU:∀(n:Nat)(_:n<=1000)(l:List S)(_:cntL l<n)(acc:List Item)(_:acc.length+cntL l<=1000)(a:Item)(gl pr:AV)(lo hi:List Int),
  SpecH prog 116 [.ptr 1000 0,.p (eSs l),.p (.agg a.cells)] (Ez 109 106 3 gl pr acc lo hi)
   (fun r H=>r=.p (.tup [])/\H=Ez 109 106 3 gl pr (XK a.proc a.up a.next a.loop acc l) lo hi):=by
 intro n;induction n with
 |zero=>intro _ l h;omega
 | succ n ih=>
   intro hn l hl acc hacc a gl pr lo hi;have hl1:=S.avs_len l;refine sH Wy func116 rfl call116 ?_;conv=>whnf
   repeat' (refine iM fun _=>?_;conv=>whnf)
   refine LoopK.inv QY (fun i:Nat×List Item=>⟨[(0,.ptr 1000 0),(1,.p (eSs l)),(5,.p (.ip a.cells)),(11,.p (eSs l)),(12,.p (.int .i64 (S.avs l).length)),(13,.p (.int .i64 i.1))],Ez 109 106 3 gl pr i.2 lo hi⟩) (fun i=>i.1<=l.length/\acc.length<=i.2.length/\i.2.length+cntL (l.drop i.1)=acc.length+cntL l/\XK a.proc a.up a.next a.loop i.2 (l.drop i.1)=XK a.proc a.up a.next a.loop acc l) (fun i=>l.length-i.1) (0,acc) (Le.of_eq rfl) ⟨x3z _,x3g _,rfl,rfl⟩ ?_;rintro⟨j,b⟩ ⟨h2,h5,h3,h4⟩;simp only at h2 h3 h4 h5⊢;have hst:∀hj:j<l.length,cntL (l.drop j)=ZW l[j]+cntL (l.drop (j+1)):=fun hj=>LL hj;conv=>whnf
   repeat' (first|((first|(refine iM fun _=>?_)|refine dA ?_|refine x2t rfl ?_|refine aD ?_|refine bP ?_|refine QX (by omega) ?_|refine wI ?_|(refine CallK.pure (CD 1000 (by omega) (l[j]'(by omega)) (by have:=hst (by omega);omega)) (.cons (Sub.refl _) .nil) ?_;rintro _ rfl)|refine Wr.i64 (by have:=hst (by omega);omega) (by have:=hst (by omega);omega) ?_|refine x6y (by simp) rfl (by show(b.length+1)*240<=140737488355328;have:=hst (by omega);omega) (by show b.length+1<=9223372036854775807;have:=hst (by omega);omega) (fun x hx=>by rcases x2a.1 hx with rfl;exact⟨rfl,rfl⟩) ?_);conv=>whnf)|(apply bD<;>intro _<;>first|omega|conv=>whnf)|(refine x2t ?_ ?_<;>conv=>whnf))
   ·have hj:j<l.length:=by omega
    have hst:=hst hj;have hcs:=ZV l[j];refine CallK.heap [(1000,1000),(2000,2000),(2001,2001),(2002,2002)] 0 (by refine x3d (x3n _) (x3d (x3n _) (x3d (LSub.agg ?_) x4x));repeat' (first|exact SubL.nil|refine SubL.cons ?_ ?_|exact Sub.refl _|exact Sub.nils|exact Sub.ff rfl)) (by exact x3j (j:=1000) rfl rfl (CSub.of_eq (by rw[x2s];first|done|rfl)) (x3j (j:=2000) rfl rfl (CSub.of_eq (by rw[x3y];first|done|rfl)) (x3j (j:=2001) rfl rfl (CSub.refl _) (x3j (j:=2002) rfl rfl (CSub.refl _) x4z)))) (ih (by omega) l[j].thn (by omega) (b++[⟨l[j]'hj,a.proc,a.up,(b.length+1+ZW (l[j]'hj):Int),a.loop⟩]) (by rw[x2s];simp only[x3a];omega) ⟨S0,a.proc,b.length+1,(b.length+1:Int),(b.length+1:Int)⟩ gl pr lo hi) rfl rfl ?_;rintro l' H' ⟨rfl,rfl⟩;conv=>whnf
    refine CallK.heap [(1000,1000),(2000,2000),(2001,2001),(2002,2002)] 0 (by refine x3d (x3n _) (x3d (x3n _) (x3d (LSub.agg ?_) x4x));repeat' (first|exact SubL.nil|refine SubL.cons ?_ ?_|exact Sub.refl _|exact Sub.nils|exact Sub.ff rfl)) (by exact x3j (j:=1000) rfl rfl (CSub.refl _) (x3j (j:=2000) rfl rfl (CSub.refl _) (x3j (j:=2001) rfl rfl (CSub.refl _) (x3j (j:=2002) rfl rfl (CSub.refl _) x4z)))) (ih (by omega) l[j].els (by omega) (XK a.proc (b.length+1) (b.length+1:Int) (b.length+1:Int) (b++[⟨l[j]'hj,a.proc,a.up,(b.length+1+ZW (l[j]'hj):Int),a.loop⟩]) (l[j]'hj).thn) (by rw[XX,x2s];simp only[x3a];omega) ⟨S0,a.proc,b.length+1,(b.length+1:Int),(b.length+1:Int)⟩ gl pr lo hi) rfl rfl ?_;rintro l' H' ⟨rfl,rfl⟩;conv=>whnf
    refine wI ?_;conv=>whnf
    have hrow:Vk a.proc a.up (b.length+1+ZW (l[j]'hj):Int) a.loop b l[j]=XK a.proc (b.length+1) (b.length+1:Int) (b.length+1:Int) (XK a.proc (b.length+1) (b.length+1:Int) (b.length+1:Int) (b++[⟨l[j]'hj,a.proc,a.up,(b.length+1+ZW (l[j]'hj):Int),a.loop⟩]) (l[j]'hj).thn) l[j].els:=by
     rw[DC,if_pos (by assumption),if_pos (by assumption)]
    exact⟨(j+1,Vk a.proc a.up (b.length+1+ZW (l[j]'hj):Int) a.loop b l[j]),⟨by simp only;omega,by simp only;rw[ZQ];omega,by simp only;rw[ZQ];omega,by simp only;rw[<-h4,VH hj,if_pos (by omega)]⟩,by simp only;omega,Le.of_eq (by simp only;rw[hrow];rfl)⟩
   ·have hj:j<l.length:=by omega
    have hst:=hst hj;have hcs:=ZV l[j];refine CallK.heap [(1000,1000),(2000,2000),(2001,2001),(2002,2002)] 0 (by refine x3d (x3n _) (x3d (x3n _) (x3d (LSub.agg ?_) x4x));repeat' (first|exact SubL.nil|refine SubL.cons ?_ ?_|exact Sub.refl _|exact Sub.nils|exact Sub.ff rfl)) (by exact x3j (j:=1000) rfl rfl (CSub.of_eq (by rw[x2s];first|done|rfl)) (x3j (j:=2000) rfl rfl (CSub.of_eq (by rw[x3y];first|done|rfl)) (x3j (j:=2001) rfl rfl (CSub.refl _) (x3j (j:=2002) rfl rfl (CSub.refl _) x4z)))) (ih (by omega) l[j].thn (by omega) (b++[⟨l[j]'hj,a.proc,a.up,(b.length+1+ZW (l[j]'hj):Int),a.loop⟩]) (by rw[x2s];simp only[x3a];omega) ⟨S0,a.proc,b.length+1,(b.length+1+ZW (l[j]'hj):Int),a.loop⟩ gl pr lo hi) rfl rfl ?_;rintro l' H' ⟨rfl,rfl⟩;conv=>whnf
    refine CallK.heap [(1000,1000),(2000,2000),(2001,2001),(2002,2002)] 0 (by refine x3d (x3n _) (x3d (x3n _) (x3d (LSub.agg ?_) x4x));repeat' (first|exact SubL.nil|refine SubL.cons ?_ ?_|exact Sub.refl _|exact Sub.nils|exact Sub.ff rfl)) (by exact x3j (j:=1000) rfl rfl (CSub.refl _) (x3j (j:=2000) rfl rfl (CSub.refl _) (x3j (j:=2001) rfl rfl (CSub.refl _) (x3j (j:=2002) rfl rfl (CSub.refl _) x4z)))) (ih (by omega) l[j].els (by omega) (XK a.proc (b.length+1) (b.length+1+ZW (l[j]'hj):Int) a.loop (b++[⟨l[j]'hj,a.proc,a.up,(b.length+1+ZW (l[j]'hj):Int),a.loop⟩]) (l[j]'hj).thn) (by rw[XX,x2s];simp only[x3a];omega) ⟨S0,a.proc,b.length+1,(b.length+1+ZW (l[j]'hj):Int),a.loop⟩ gl pr lo hi) rfl rfl ?_;rintro l' H' ⟨rfl,rfl⟩;conv=>whnf
    refine wI ?_;conv=>whnf
    have hrow:Vk a.proc a.up (b.length+1+ZW (l[j]'hj):Int) a.loop b l[j]=XK a.proc (b.length+1) (b.length+1+ZW (l[j]'hj):Int) a.loop (XK a.proc (b.length+1) (b.length+1+ZW (l[j]'hj):Int) a.loop (b++[⟨l[j]'hj,a.proc,a.up,(b.length+1+ZW (l[j]'hj):Int),a.loop⟩]) (l[j]'hj).thn) l[j].els:=by
     rw[DC,if_neg (by assumption),if_neg (by assumption)]
    exact⟨(j+1,Vk a.proc a.up (b.length+1+ZW (l[j]'hj):Int) a.loop b l[j]),⟨by simp only;omega,by simp only;rw[ZQ];omega,by simp only;rw[ZQ];omega,by simp only;rw[<-h4,VH hj,if_pos (by omega)]⟩,by simp only;omega,Le.of_eq (by simp only;rw[hrow];rfl)⟩
   ·have hj:j<l.length:=by omega
    have hst:=hst hj;have hcs:=ZV l[j];refine CallK.heap [(1000,1000),(2000,2000),(2001,2001),(2002,2002)] 0 (by refine x3d (x3n _) (x3d (x3n _) (x3d (LSub.agg ?_) x4x));repeat' (first|exact SubL.nil|refine SubL.cons ?_ ?_|exact Sub.refl _|exact Sub.nils|exact Sub.ff rfl)) (by exact x3j (j:=1000) rfl rfl (CSub.of_eq (by rw[x2s];first|done|rfl)) (x3j (j:=2000) rfl rfl (CSub.of_eq (by rw[x3y];first|done|rfl)) (x3j (j:=2001) rfl rfl (CSub.refl _) (x3j (j:=2002) rfl rfl (CSub.refl _) x4z)))) (ih (by omega) l[j].thn (by omega) (b++[⟨l[j]'hj,a.proc,a.up,(b.length+1+ZW (l[j]'hj):Int),a.loop⟩]) (by rw[x2s];simp only[x3a];omega) ⟨S0,a.proc,b.length+1,(b.length+1:Int),(b.length+1:Int)⟩ gl pr lo hi) rfl rfl ?_;rintro l' H' ⟨rfl,rfl⟩;conv=>whnf
    refine CallK.heap [(1000,1000),(2000,2000),(2001,2001),(2002,2002)] 0 (by refine x3d (x3n _) (x3d (x3n _) (x3d (LSub.agg ?_) x4x));repeat' (first|exact SubL.nil|refine SubL.cons ?_ ?_|exact Sub.refl _|exact Sub.nils|exact Sub.ff rfl)) (by exact x3j (j:=1000) rfl rfl (CSub.refl _) (x3j (j:=2000) rfl rfl (CSub.refl _) (x3j (j:=2001) rfl rfl (CSub.refl _) (x3j (j:=2002) rfl rfl (CSub.refl _) x4z)))) (ih (by omega) l[j].els (by omega) (XK a.proc (b.length+1) (b.length+1:Int) (b.length+1:Int) (b++[⟨l[j]'hj,a.proc,a.up,(b.length+1+ZW (l[j]'hj):Int),a.loop⟩]) (l[j]'hj).thn) (by rw[XX,x2s];simp only[x3a];omega) ⟨S0,a.proc,b.length+1,(b.length+1:Int),(b.length+1:Int)⟩ gl pr lo hi) rfl rfl ?_;rintro l' H' ⟨rfl,rfl⟩;conv=>whnf
    refine wI ?_;conv=>whnf
    have hrow:Vk a.proc a.up (b.length+1+ZW (l[j]'hj):Int) a.loop b l[j]=XK a.proc (b.length+1) (b.length+1:Int) (b.length+1:Int) (XK a.proc (b.length+1) (b.length+1:Int) (b.length+1:Int) (b++[⟨l[j]'hj,a.proc,a.up,(b.length+1+ZW (l[j]'hj):Int),a.loop⟩]) (l[j]'hj).thn) l[j].els:=by
     rw[DC,if_pos (by assumption),if_pos (by assumption)]
    exact⟨(j+1,Vk a.proc a.up (b.length+1+ZW (l[j]'hj):Int) a.loop b l[j]),⟨by simp only;omega,by simp only;rw[ZQ];omega,by simp only;rw[ZQ];omega,by simp only;rw[<-h4,VH hj,if_pos (by omega)]⟩,by simp only;omega,Le.of_eq (by simp only;rw[hrow];rfl)⟩
   ·have hj:j<l.length:=by omega
    have hst:=hst hj;have hcs:=ZV l[j];refine CallK.heap [(1000,1000),(2000,2000),(2001,2001),(2002,2002)] 0 (by refine x3d (x3n _) (x3d (x3n _) (x3d (LSub.agg ?_) x4x));repeat' (first|exact SubL.nil|refine SubL.cons ?_ ?_|exact Sub.refl _|exact Sub.nils|exact Sub.ff rfl)) (by exact x3j (j:=1000) rfl rfl (CSub.of_eq (by rw[x2s];first|done|rfl)) (x3j (j:=2000) rfl rfl (CSub.of_eq (by rw[x3y];first|done|rfl)) (x3j (j:=2001) rfl rfl (CSub.refl _) (x3j (j:=2002) rfl rfl (CSub.refl _) x4z)))) (ih (by omega) l[j].thn (by omega) (b++[⟨l[j]'hj,a.proc,a.up,(b.length+1+ZW (l[j]'hj):Int),a.loop⟩]) (by rw[x2s];simp only[x3a];omega) ⟨S0,a.proc,b.length+1,(b.length+1+ZW (l[j]'hj):Int),a.loop⟩ gl pr lo hi) rfl rfl ?_;rintro l' H' ⟨rfl,rfl⟩;conv=>whnf
    refine CallK.heap [(1000,1000),(2000,2000),(2001,2001),(2002,2002)] 0 (by refine x3d (x3n _) (x3d (x3n _) (x3d (LSub.agg ?_) x4x));repeat' (first|exact SubL.nil|refine SubL.cons ?_ ?_|exact Sub.refl _|exact Sub.nils|exact Sub.ff rfl)) (by exact x3j (j:=1000) rfl rfl (CSub.refl _) (x3j (j:=2000) rfl rfl (CSub.refl _) (x3j (j:=2001) rfl rfl (CSub.refl _) (x3j (j:=2002) rfl rfl (CSub.refl _) x4z)))) (ih (by omega) l[j].els (by omega) (XK a.proc (b.length+1) (b.length+1+ZW (l[j]'hj):Int) a.loop (b++[⟨l[j]'hj,a.proc,a.up,(b.length+1+ZW (l[j]'hj):Int),a.loop⟩]) (l[j]'hj).thn) (by rw[XX,x2s];simp only[x3a];omega) ⟨S0,a.proc,b.length+1,(b.length+1+ZW (l[j]'hj):Int),a.loop⟩ gl pr lo hi) rfl rfl ?_;rintro l' H' ⟨rfl,rfl⟩;conv=>whnf
    refine wI ?_;conv=>whnf
    have hrow:Vk a.proc a.up (b.length+1+ZW (l[j]'hj):Int) a.loop b l[j]=XK a.proc (b.length+1) (b.length+1+ZW (l[j]'hj):Int) a.loop (XK a.proc (b.length+1) (b.length+1+ZW (l[j]'hj):Int) a.loop (b++[⟨l[j]'hj,a.proc,a.up,(b.length+1+ZW (l[j]'hj):Int),a.loop⟩]) (l[j]'hj).thn) l[j].els:=by
     rw[DC,if_neg (by assumption),if_neg (by assumption)]
    exact⟨(j+1,Vk a.proc a.up (b.length+1+ZW (l[j]'hj):Int) a.loop b l[j]),⟨by simp only;omega,by simp only;rw[ZQ];omega,by simp only;rw[ZQ];omega,by simp only;rw[<-h4,VH hj,if_pos (by omega)]⟩,by simp only;omega,Le.of_eq (by simp only;rw[hrow];rfl)⟩
   ·have hj:j<l.length:=by omega
    have hst:=hst hj;have hcs:=ZV l[j];refine CallK.heap [(1000,1000),(2000,2000),(2001,2001),(2002,2002)] 0 (by refine x3d (x3n _) (x3d (x3n _) (x3d (LSub.agg ?_) x4x));repeat' (first|exact SubL.nil|refine SubL.cons ?_ ?_|exact Sub.refl _|exact Sub.nils|exact Sub.ff rfl)) (by exact x3j (j:=1000) rfl rfl (CSub.of_eq (by rw[x2s];first|done|rfl)) (x3j (j:=2000) rfl rfl (CSub.of_eq (by rw[x3y];first|done|rfl)) (x3j (j:=2001) rfl rfl (CSub.refl _) (x3j (j:=2002) rfl rfl (CSub.refl _) x4z)))) (ih (by omega) l[j].thn (by omega) (b++[⟨l[j]'hj,a.proc,a.up,a.next,a.loop⟩]) (by rw[x2s];simp only[x3a];omega) ⟨S0,a.proc,b.length+1,(b.length+1:Int),(b.length+1:Int)⟩ gl pr lo hi) rfl rfl ?_;rintro l' H' ⟨rfl,rfl⟩;conv=>whnf
    refine CallK.heap [(1000,1000),(2000,2000),(2001,2001),(2002,2002)] 0 (by refine x3d (x3n _) (x3d (x3n _) (x3d (LSub.agg ?_) x4x));repeat' (first|exact SubL.nil|refine SubL.cons ?_ ?_|exact Sub.refl _|exact Sub.nils|exact Sub.ff rfl)) (by exact x3j (j:=1000) rfl rfl (CSub.refl _) (x3j (j:=2000) rfl rfl (CSub.refl _) (x3j (j:=2001) rfl rfl (CSub.refl _) (x3j (j:=2002) rfl rfl (CSub.refl _) x4z)))) (ih (by omega) l[j].els (by omega) (XK a.proc (b.length+1) (b.length+1:Int) (b.length+1:Int) (b++[⟨l[j]'hj,a.proc,a.up,a.next,a.loop⟩]) (l[j]'hj).thn) (by rw[XX,x2s];simp only[x3a];omega) ⟨S0,a.proc,b.length+1,(b.length+1:Int),(b.length+1:Int)⟩ gl pr lo hi) rfl rfl ?_;rintro l' H' ⟨rfl,rfl⟩;conv=>whnf
    refine wI ?_;conv=>whnf
    have hrow:Vk a.proc a.up a.next a.loop b l[j]=XK a.proc (b.length+1) (b.length+1:Int) (b.length+1:Int) (XK a.proc (b.length+1) (b.length+1:Int) (b.length+1:Int) (b++[⟨l[j]'hj,a.proc,a.up,a.next,a.loop⟩]) (l[j]'hj).thn) l[j].els:=by
     rw[DC,if_pos (by assumption),if_pos (by assumption)]
    exact⟨(j+1,Vk a.proc a.up a.next a.loop b l[j]),⟨by simp only;omega,by simp only;rw[ZQ];omega,by simp only;rw[ZQ];omega,by simp only;rw[<-h4,VH hj,if_neg (by omega)]⟩,by simp only;omega,Le.of_eq (by simp only;rw[hrow];rfl)⟩
   ·have hj:j<l.length:=by omega
    have hst:=hst hj;have hcs:=ZV l[j];refine CallK.heap [(1000,1000),(2000,2000),(2001,2001),(2002,2002)] 0 (by refine x3d (x3n _) (x3d (x3n _) (x3d (LSub.agg ?_) x4x));repeat' (first|exact SubL.nil|refine SubL.cons ?_ ?_|exact Sub.refl _|exact Sub.nils|exact Sub.ff rfl)) (by exact x3j (j:=1000) rfl rfl (CSub.of_eq (by rw[x2s];first|done|rfl)) (x3j (j:=2000) rfl rfl (CSub.of_eq (by rw[x3y];first|done|rfl)) (x3j (j:=2001) rfl rfl (CSub.refl _) (x3j (j:=2002) rfl rfl (CSub.refl _) x4z)))) (ih (by omega) l[j].thn (by omega) (b++[⟨l[j]'hj,a.proc,a.up,a.next,a.loop⟩]) (by rw[x2s];simp only[x3a];omega) ⟨S0,a.proc,b.length+1,a.next,a.loop⟩ gl pr lo hi) rfl rfl ?_;rintro l' H' ⟨rfl,rfl⟩;conv=>whnf
    refine CallK.heap [(1000,1000),(2000,2000),(2001,2001),(2002,2002)] 0 (by refine x3d (x3n _) (x3d (x3n _) (x3d (LSub.agg ?_) x4x));repeat' (first|exact SubL.nil|refine SubL.cons ?_ ?_|exact Sub.refl _|exact Sub.nils|exact Sub.ff rfl)) (by exact x3j (j:=1000) rfl rfl (CSub.refl _) (x3j (j:=2000) rfl rfl (CSub.refl _) (x3j (j:=2001) rfl rfl (CSub.refl _) (x3j (j:=2002) rfl rfl (CSub.refl _) x4z)))) (ih (by omega) l[j].els (by omega) (XK a.proc (b.length+1) a.next a.loop (b++[⟨l[j]'hj,a.proc,a.up,a.next,a.loop⟩]) (l[j]'hj).thn) (by rw[XX,x2s];simp only[x3a];omega) ⟨S0,a.proc,b.length+1,a.next,a.loop⟩ gl pr lo hi) rfl rfl ?_;rintro l' H' ⟨rfl,rfl⟩;conv=>whnf
    refine wI ?_;conv=>whnf
    have hrow:Vk a.proc a.up a.next a.loop b l[j]=XK a.proc (b.length+1) a.next a.loop (XK a.proc (b.length+1) a.next a.loop (b++[⟨l[j]'hj,a.proc,a.up,a.next,a.loop⟩]) (l[j]'hj).thn) l[j].els:=by
     rw[DC,if_neg (by assumption),if_neg (by assumption)]
    exact⟨(j+1,Vk a.proc a.up a.next a.loop b l[j]),⟨by simp only;omega,by simp only;rw[ZQ];omega,by simp only;rw[ZQ];omega,by simp only;rw[<-h4,VH hj,if_neg (by omega)]⟩,by simp only;omega,Le.of_eq (by simp only;rw[hrow];rfl)⟩
   ·have hj:j<l.length:=by omega
    have hst:=hst hj;have hcs:=ZV l[j];refine CallK.heap [(1000,1000),(2000,2000),(2001,2001),(2002,2002)] 0 (by refine x3d (x3n _) (x3d (x3n _) (x3d (LSub.agg ?_) x4x));repeat' (first|exact SubL.nil|refine SubL.cons ?_ ?_|exact Sub.refl _|exact Sub.nils|exact Sub.ff rfl)) (by exact x3j (j:=1000) rfl rfl (CSub.of_eq (by rw[x2s];first|done|rfl)) (x3j (j:=2000) rfl rfl (CSub.of_eq (by rw[x3y];first|done|rfl)) (x3j (j:=2001) rfl rfl (CSub.refl _) (x3j (j:=2002) rfl rfl (CSub.refl _) x4z)))) (ih (by omega) l[j].thn (by omega) (b++[⟨l[j]'hj,a.proc,a.up,a.next,a.loop⟩]) (by rw[x2s];simp only[x3a];omega) ⟨S0,a.proc,b.length+1,(b.length+1:Int),(b.length+1:Int)⟩ gl pr lo hi) rfl rfl ?_;rintro l' H' ⟨rfl,rfl⟩;conv=>whnf
    refine CallK.heap [(1000,1000),(2000,2000),(2001,2001),(2002,2002)] 0 (by refine x3d (x3n _) (x3d (x3n _) (x3d (LSub.agg ?_) x4x));repeat' (first|exact SubL.nil|refine SubL.cons ?_ ?_|exact Sub.refl _|exact Sub.nils|exact Sub.ff rfl)) (by exact x3j (j:=1000) rfl rfl (CSub.refl _) (x3j (j:=2000) rfl rfl (CSub.refl _) (x3j (j:=2001) rfl rfl (CSub.refl _) (x3j (j:=2002) rfl rfl (CSub.refl _) x4z)))) (ih (by omega) l[j].els (by omega) (XK a.proc (b.length+1) (b.length+1:Int) (b.length+1:Int) (b++[⟨l[j]'hj,a.proc,a.up,a.next,a.loop⟩]) (l[j]'hj).thn) (by rw[XX,x2s];simp only[x3a];omega) ⟨S0,a.proc,b.length+1,(b.length+1:Int),(b.length+1:Int)⟩ gl pr lo hi) rfl rfl ?_;rintro l' H' ⟨rfl,rfl⟩;conv=>whnf
    refine wI ?_;conv=>whnf
    have hrow:Vk a.proc a.up a.next a.loop b l[j]=XK a.proc (b.length+1) (b.length+1:Int) (b.length+1:Int) (XK a.proc (b.length+1) (b.length+1:Int) (b.length+1:Int) (b++[⟨l[j]'hj,a.proc,a.up,a.next,a.loop⟩]) (l[j]'hj).thn) l[j].els:=by
     rw[DC,if_pos (by assumption),if_pos (by assumption)]
    exact⟨(j+1,Vk a.proc a.up a.next a.loop b l[j]),⟨by simp only;omega,by simp only;rw[ZQ];omega,by simp only;rw[ZQ];omega,by simp only;rw[<-h4,VH hj,if_neg (by omega)]⟩,by simp only;omega,Le.of_eq (by simp only;rw[hrow];rfl)⟩
   ·have hj:j<l.length:=by omega
    have hst:=hst hj;have hcs:=ZV l[j];refine CallK.heap [(1000,1000),(2000,2000),(2001,2001),(2002,2002)] 0 (by refine x3d (x3n _) (x3d (x3n _) (x3d (LSub.agg ?_) x4x));repeat' (first|exact SubL.nil|refine SubL.cons ?_ ?_|exact Sub.refl _|exact Sub.nils|exact Sub.ff rfl)) (by exact x3j (j:=1000) rfl rfl (CSub.of_eq (by rw[x2s];first|done|rfl)) (x3j (j:=2000) rfl rfl (CSub.of_eq (by rw[x3y];first|done|rfl)) (x3j (j:=2001) rfl rfl (CSub.refl _) (x3j (j:=2002) rfl rfl (CSub.refl _) x4z)))) (ih (by omega) l[j].thn (by omega) (b++[⟨l[j]'hj,a.proc,a.up,a.next,a.loop⟩]) (by rw[x2s];simp only[x3a];omega) ⟨S0,a.proc,b.length+1,a.next,a.loop⟩ gl pr lo hi) rfl rfl ?_;rintro l' H' ⟨rfl,rfl⟩;conv=>whnf
    refine CallK.heap [(1000,1000),(2000,2000),(2001,2001),(2002,2002)] 0 (by refine x3d (x3n _) (x3d (x3n _) (x3d (LSub.agg ?_) x4x));repeat' (first|exact SubL.nil|refine SubL.cons ?_ ?_|exact Sub.refl _|exact Sub.nils|exact Sub.ff rfl)) (by exact x3j (j:=1000) rfl rfl (CSub.refl _) (x3j (j:=2000) rfl rfl (CSub.refl _) (x3j (j:=2001) rfl rfl (CSub.refl _) (x3j (j:=2002) rfl rfl (CSub.refl _) x4z)))) (ih (by omega) l[j].els (by omega) (XK a.proc (b.length+1) a.next a.loop (b++[⟨l[j]'hj,a.proc,a.up,a.next,a.loop⟩]) (l[j]'hj).thn) (by rw[XX,x2s];simp only[x3a];omega) ⟨S0,a.proc,b.length+1,a.next,a.loop⟩ gl pr lo hi) rfl rfl ?_;rintro l' H' ⟨rfl,rfl⟩;conv=>whnf
    refine wI ?_;conv=>whnf
    have hrow:Vk a.proc a.up a.next a.loop b l[j]=XK a.proc (b.length+1) a.next a.loop (XK a.proc (b.length+1) a.next a.loop (b++[⟨l[j]'hj,a.proc,a.up,a.next,a.loop⟩]) (l[j]'hj).thn) l[j].els:=by
     rw[DC,if_neg (by assumption),if_neg (by assumption)]
    exact⟨(j+1,Vk a.proc a.up a.next a.loop b l[j]),⟨by simp only;omega,by simp only;rw[ZQ];omega,by simp only;rw[ZQ];omega,by simp only;rw[<-h4,VH hj,if_neg (by omega)]⟩,by simp only;omega,Le.of_eq (by simp only;rw[hrow];rfl)⟩
   ·refine⟨_,.refl _,rfl,?_⟩;rw[x3b (by omega),XK]at h4;rw[<-h4];rfl
structure Sheet where
 p:Pg
 l:List Item
 lo:List Int
 hi:List Int
def Sheet.cells(s:Sheet):List AV:=s.p.cells++[.sl (s.l.map fun i=>.agg i.cells),QO s.lo,QO s.hi]
def cntP:List Pr->Nat
 |[]=>0
 |f::r=>cntL f.body+cntP r
theorem Uv{l:List Pr}(hj:j<l.length):cntP (l.drop j)=cntL l[j].body+cntP (l.drop (j+1)):=by
 rw[QF hj,cntP]
def Jf(i:Nat)(acc:List Item)(lo hi:List Int):List Pr->List Item×List Int×List Int
 |[]=>(acc,lo,hi)
 |f::r=>Jf (i+1) (XK i 0 (-1) 0 acc f.body) (lo++[(acc.length:Int)+1]) (hi++[((XK i 0 (-1) 0 acc f.body).length:Int)+1]) r
def sheetOf(p:Pg):Sheet:=⟨p,(Jf 0 [] [] [] p.procs).1,(Jf 0 [] [] [] p.procs).2.1,(Jf 0 [] [] [] p.procs).2.2⟩
theorem Nm{acc:List Item}{lo hi:List Int}{l:List Pr}(hj:j<l.length):
  Jf i acc lo hi (l.drop j)=Jf (i+1) (XK i 0 (-1) 0 acc l[j].body) (lo++[(acc.length:Int)+1]) (hi++[((XK i 0 (-1) 0 acc l[j].body).length:Int)+1]) (l.drop (j+1)):=by
 rw[QF hj,Jf]
def q6t(tS tI tN:Nat)(p:Pg)(L:List Item)(lo hi:List Int):Heap:=
 [(0,.obj tS [.p (eStrs p.globals),.p (.sl (p.procs.map fun f=>.agg f.cells)),.hd 1 0 L.length,.hd 2 0 lo.length,.hd 3 0 hi.length]),(1,.own tI 17 (L.map fun i=>.agg i.cells)),(2,.own tN 1 (lo.map (.int .i64))),(3,.own tN 1 (hi.map (.int .i64)))]
theorem BM(p:Pg)(h1:p.procs.length<=1000)(hc:cntP p.procs<=999):SpecP prog 67 [.agg p.cells] (fun r=>r=.ip (sheetOf p).cells):=by
 refine sB TF func67 rfl call67 ?_;conv=>whnf
 repeat' ((first|(refine iM fun _=>?_)|refine x2t rfl ?_);conv=>whnf)
 have hl2:(p.procs.map fun f=>AV.agg f.cells).length=p.procs.length:=x2m _;refine LoopK.inv QY (fun i:Nat×List Item×List Int×List Int=>⟨[(3,.ptr 0 0),(10,.p (.sl (p.procs.map fun f=>AV.agg f.cells))),(11,.p (.int .i64 (p.procs.map fun f=>AV.agg f.cells).length)),(12,.p (.int .i64 i.1))],q6t 109 106 3 p i.2.1 i.2.2.1 i.2.2.2⟩)
  (fun i=>i.1<=p.procs.length/\i.2.1.length+cntP (p.procs.drop i.1)=cntP p.procs/\i.2.2.1.length=i.1/\i.2.2.2.length=i.1/\Jf i.1 i.2.1 i.2.2.1 i.2.2.2 (p.procs.drop i.1)=Jf 0 [] [] [] p.procs) (fun i=>p.procs.length-i.1) (0,[],[],[])
  (Le.mk [(1,.own 106 17 []),(2,.own 3 1 []),(3,.own 3 1 [])] (by simp[Chunk.new0];exact⟨rfl,rfl,rfl⟩) (by simp) (by simp[q6t]) (.r (.r (.r (.r .nil))))
    (.cons rfl (.obj (.r (.r (.cons (.nil x2r) (.cons (.nil (x2c _ x2r)) (.cons (.nil (x2c _ (x2c _ x2r))) .nil)))))) (.new x2r (.new (x2c _ x2r) (.new (x2c _ (x2c _ x2r)) .nil)))))
  ⟨x3z _,by simp,rfl,rfl,rfl⟩ ?_
 rintro⟨j,b,lo,hi⟩ ⟨h2,h3,h4,h5,h6⟩;simp only at h2 h3 h4 h5 h6⊢;conv=>whnf
 repeat' (first|((first|(refine iM fun _=>?_)|refine dA ?_|refine x2t rfl ?_|refine aD ?_|refine bP ?_|(refine iA fun _=>?_)|refine wI ?_|refine x6y (by simp) rfl (by show(lo.length+1)*8<=140737488355328;omega) (by show lo.length+1<=9223372036854775807;omega) (fun x hx=>by rcases x2a.1 hx with rfl;exact⟨rfl,rfl⟩) ?_);conv=>whnf)|(apply bD<;>intro _<;>first|omega|conv=>whnf)|(refine x2t ?_ ?_<;>conv=>whnf))
 ·have hj:j<p.procs.length:=by omega
  have hst:=Uv hj;refine CallK.heap [(1000,0),(2000,1),(2001,2),(2002,3)] 0 (by refine x3d (x3n _) (x3d (x3n _) (x3d (LSub.agg ?_) x4x));repeat' (first|exact SubL.nil|refine SubL.cons ?_ ?_|exact Sub.refl _|exact Sub.nils|exact Sub.ff rfl)) (by exact x3j (j:=0) rfl rfl (CSub.of_eq (by rw[x2s];first|done|rfl)) (x3j (j:=1) rfl rfl (CSub.refl _) (x3j (j:=2) rfl rfl (CSub.of_eq (by rw[x3y];first|done|rfl)) (x3j (j:=3) rfl rfl (CSub.refl _) x4z)))) (RU 1000 (by omega) p.procs[j].body (by omega) b (by omega) ⟨S0,j,0,-1,0⟩ _ _ (lo++[(b.length:Int)+1]) hi) rfl rfl ?_;rintro l' H' ⟨rfl,rfl⟩;conv=>whnf
  have hlen:=XX j 0 (-1) 0 b p.procs[j].body;repeat' (first|((first|(refine iM fun _=>?_)|refine dA ?_|refine x2t rfl ?_|refine aD ?_|refine bP ?_|refine wI ?_|refine x6y (by simp) rfl (by show(hi.length+1)*8<=140737488355328;omega) (by show hi.length+1<=9223372036854775807;omega) (fun x hx=>by rcases x2a.1 hx with rfl;exact⟨rfl,rfl⟩) ?_|refine Wr.i64 (by rw[XX];omega) (by rw[XX];omega) ?_);conv=>whnf)|(refine x2t ?_ ?_<;>conv=>whnf))
  all_goals exact⟨(j+1,XK j 0 (-1) 0 b p.procs[j].body,lo++[(b.length:Int)+1],hi++[((XK j 0 (-1) 0 b p.procs[j].body).length:Int)+1]),⟨by simp only;omega,by simp only;omega,by simp[h4],by simp[h5],by simp only;rw[<-h6,Nm hj]⟩,by simp only;omega,Le.of_eq (by simp only[q6t,x2s,x3y];rfl)⟩
 ·have hj:j<p.procs.length:=by omega
  have hst:=Uv hj;refine CallK.heap [(1000,0),(2000,1),(2001,2),(2002,3)] 0 (by refine x3d (x3n _) (x3d (x3n _) (x3d (LSub.agg ?_) x4x));repeat' (first|exact SubL.nil|refine SubL.cons ?_ ?_|exact Sub.refl _|exact Sub.nils|exact Sub.ff rfl)) (by exact x3j (j:=0) rfl rfl (CSub.of_eq (by rw[x2s];first|done|rfl)) (x3j (j:=1) rfl rfl (CSub.refl _) (x3j (j:=2) rfl rfl (CSub.of_eq (by rw[x3y];first|done|rfl)) (x3j (j:=3) rfl rfl (CSub.refl _) x4z)))) (RU 1000 (by omega) p.procs[j].body (by omega) b (by omega) ⟨S0,j,0,-1,0⟩ _ _ (lo++[(b.length:Int)+1]) hi) rfl rfl ?_;rintro l' H' ⟨rfl,rfl⟩;conv=>whnf
  have hlen:=XX j 0 (-1) 0 b p.procs[j].body;repeat' (first|((first|(refine iM fun _=>?_)|refine dA ?_|refine x2t rfl ?_|refine aD ?_|refine bP ?_|refine wI ?_|refine x6y (by simp) rfl (by show(hi.length+1)*8<=140737488355328;omega) (by show hi.length+1<=9223372036854775807;omega) (fun x hx=>by rcases x2a.1 hx with rfl;exact⟨rfl,rfl⟩) ?_|refine Wr.i64 (by rw[XX];omega) (by rw[XX];omega) ?_);conv=>whnf)|(refine x2t ?_ ?_<;>conv=>whnf))
  all_goals exact⟨(j+1,XK j 0 (-1) 0 b p.procs[j].body,lo++[(b.length:Int)+1],hi++[((XK j 0 (-1) 0 b p.procs[j].body).length:Int)+1]),⟨by simp only;omega,by simp only;omega,by simp[h4],by simp[h5],by simp only;rw[<-h6,Nm hj]⟩,by simp only;omega,Le.of_eq (by simp only[q6t,x2s,x3y];rfl)⟩
 ·have hd:p.procs.drop j=[]:=x3b (by omega);rw[hd,Jf]at h6;refine⟨.ip (sheetOf p).cells,?_,rfl⟩;have e:(sheetOf p).cells=[eStrs p.globals,.sl (p.procs.map fun f=>.agg f.cells),.sl (b.map fun i=>.agg i.cells),QO lo,QO hi]:=by
   unfold sheetOf;rw[<-h6];rfl
  rw[e];have hF:∀H:Heap,getH H 1=some (.own 106 17 (b.map fun i=>.agg i.cells))->getH H 2=some (.own 3 1 (lo.map (.int .i64)))->getH H 3=some (.own 3 1 (hi.map (.int .i64)))->
    FrzL H [.p (eStrs p.globals),.p (.sl (p.procs.map fun f=>.agg f.cells)),.hd 1 0 b.length,.hd 2 0 lo.length,.hd 3 0 hi.length] [eStrs p.globals,.sl (p.procs.map fun f=>.agg f.cells),.sl (b.map fun i=>.agg i.cells),QO lo,QO hi]:=fun H g1 g2 g3=>
   .cons (.p (Sub.refl _)) (.cons (.p (Sub.refl _)) (.cons (.hd g1 (by simp)) (.cons (.hd g2 (by simp)) (.cons (.hd g3 (by simp)) .nil))))
  refine Frz.ptr (off:=0) rfl rfl fun m l c hl hc=>?_;obtain⟨l',h7,h8⟩:=(hF (q6t 109 106 3 p b lo hi) rfl rfl rfl).get.2 m c hc;have h9:=h7.symm.trans hl;cases h9;exact h8
end Go.Ab
