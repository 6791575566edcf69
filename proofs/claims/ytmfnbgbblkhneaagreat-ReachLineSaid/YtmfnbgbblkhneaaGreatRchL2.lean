/- Values of persistent memory as pure data ('AV'), values that may lie in memory of the call's own ('LV'), what they stand for in a world, and that this outlives growth of the persistent memory. Conditions: none; parametric in the program. -/
import Derived.Control
import Derived.Calls
import Derived.Orders
import Derived.KernelRfl
import Derived.Laws.AppendOwn
import Derived.Laws.MakeOwn
import Derived.Great.BuildSlice
import Derived.Laws.Entries
import Derived.Laws.Strings
set_option linter.unusedSimpArgs false
set_option linter.unusedVariables false
set_option maxRecDepth 100000
set_option maxHeartbeats 16000000
open Array (push)
open List (map_cons map_nil mem_cons sum_cons)
open Nat (ble ble_eq)
namespace Go.Ab
theorem x2n:type_of%@List.getElem?_eq_getElem:=@List.getElem?_eq_getElem
theorem x2m:type_of%@List.length_map:=@List.length_map
theorem x2l:type_of%@List.getD_eq_getElem?_getD:=@List.getD_eq_getElem?_getD
theorem x2r:type_of%@List.mem_cons_self:=@List.mem_cons_self
theorem x2t:type_of%@And.intro:=@And.intro
theorem x2s:type_of%@List.length_append:=@List.length_append
theorem x2c:type_of%@List.mem_cons_of_mem:=@List.mem_cons_of_mem
theorem x2a:type_of%@List.mem_singleton:=@List.mem_singleton
theorem x2e:type_of%@List.getElem?_map:=@List.getElem?_map
theorem x2i:type_of%@mem_cons:=@mem_cons
theorem x2o:type_of%@List.getElem?_eq_some_iff:=@List.getElem?_eq_some_iff
theorem x3q:type_of%@List.mem_map:=@List.mem_map
theorem x3x:type_of%@List.mem_append:=@List.mem_append
theorem x3z:type_of%@Nat.zero_le:=@Nat.zero_le
theorem x3w:type_of%@List.getElem_mem:=@List.getElem_mem
theorem x3v:type_of%@Nat.lt_or_ge:=@Nat.lt_or_ge
theorem x3u:type_of%@List.take_succ_eq_append_getElem:=@List.take_succ_eq_append_getElem
theorem x3y:type_of%@List.map_append:=@List.map_append
theorem x3k:type_of%@List.mem_of_getElem?:=@List.mem_of_getElem?
theorem x3g:type_of%@Nat.le_refl:=@Nat.le_refl
theorem x3h:type_of%@Bool.and_eq_true:=@Bool.and_eq_true
theorem x3f:type_of%@List.take_of_length_le:=@List.take_of_length_le
theorem x3b:type_of%@List.drop_eq_nil_of_le:=@List.drop_eq_nil_of_le
theorem x3p:type_of%@cond_true:=@cond_true
theorem x3m:type_of%@List.length_take:=@List.length_take
theorem x3l:type_of%@map_cons:=@map_cons
theorem x3r:type_of%@Array.getElem?_eq_some_iff:=@Array.getElem?_eq_some_iff
theorem x3t:type_of%@cond_false:=@cond_false
theorem x3s:type_of%@List.append_assoc:=@List.append_assoc
theorem x3c:type_of%@List.mem_flatMap:=@List.mem_flatMap
theorem x3a:type_of%@List.length_singleton:=@List.length_singleton
theorem x3i:type_of%@decide_eq_true_eq:=@decide_eq_true_eq
theorem x3o:type_of%@List.getElem?_replicate:=@List.getElem?_replicate
theorem x4q:type_of%@List.length_cons:=@List.length_cons
theorem x4w:type_of%@List.mem_filter:=@List.mem_filter
theorem x4v:type_of%@List.drop_eq_getElem_cons:=@List.drop_eq_getElem_cons
theorem x4u:type_of%@List.getElem?_append_right:=@List.getElem?_append_right
theorem x4y:type_of%@List.mem_range:=@List.mem_range
theorem x4k:type_of%@Nat.le_trans:=@Nat.le_trans
theorem x4g:type_of%@List.getElem?_take:=@List.getElem?_take
theorem x4h:type_of%@List.mem_append_left:=@List.mem_append_left
theorem x4f:type_of%@List.mem_append_right:=@List.mem_append_right
theorem x4d:type_of%@List.all_eq_true:=@List.all_eq_true
theorem x4b:type_of%@List.append_nil:=@List.append_nil
theorem x4p:type_of%@List.getElem?_append_left:=@List.getElem?_append_left
theorem x4n:type_of%@List.flatMap_cons:=@List.flatMap_cons
theorem x4m:type_of%@List.map_set:=@List.map_set
theorem x4l:type_of%@List.nodup_append:=@List.nodup_append
theorem x4r:type_of%@List.nodup_cons:=@List.nodup_cons
theorem x4t:type_of%@List.mem_iff_getElem:=@List.mem_iff_getElem
theorem x4s:type_of%@Nat.mul_le_mul_right:=@Nat.mul_le_mul_right
theorem x4c:type_of%@List.getElem?_drop:=@List.getElem?_drop
theorem x4a:type_of%@List.getElem?_eq_none:=@List.getElem?_eq_none
theorem x4e:type_of%@List.eq_nil_of_length_eq_zero:=@List.eq_nil_of_length_eq_zero
theorem x4i:type_of%@decide_eq_false:=@decide_eq_false
theorem x4o:type_of%@List.any_eq_true:=@List.any_eq_true
theorem x5q:type_of%@Option.getD_some:=@Option.getD_some
theorem x5x:type_of%@List.length_replicate:=@List.length_replicate
theorem x5w:type_of%@List.getElem?_set_self:=@List.getElem?_set_self
theorem x5v:type_of%@Array.getElem?_eq_getElem:=@Array.getElem?_eq_getElem
theorem x5u:type_of%@congrArg:=@congrArg
theorem x5y:type_of%@List.length_filter_le:=@List.length_filter_le
theorem x5j:type_of%@Option.some.inj:=@Option.some.inj
theorem x5k:type_of%@decide_eq_false_iff_not:=@decide_eq_false_iff_not
theorem x5g:type_of%@decide_eq_true:=@decide_eq_true
theorem x5h:type_of%@List.getElem?_set_ne:=@List.getElem?_set_ne
theorem x5f:type_of%@List.length_drop:=@List.length_drop
theorem x5d:type_of%@Nat.add_mul:=@Nat.add_mul
theorem x5b:type_of%@Array.length_toList:=@Array.length_toList
theorem x5p:type_of%@Classical.byContradiction:=@Classical.byContradiction
theorem x5n:type_of%@List.mem_of_find?_eq_some:=@List.mem_of_find?_eq_some
theorem x5m:type_of%@Nat.zero_add:=@Nat.zero_add
theorem x5l:type_of%@Bool.not_eq_true':=@Bool.not_eq_true'
theorem x5r:type_of%@List.filter_append:=@List.filter_append
theorem x5t:type_of%@List.getElem_map:=@List.getElem_map
theorem x5s:type_of%@List.mem_iff_getElem?:=@List.mem_iff_getElem?
theorem x5c:type_of%@Int.toNat_natCast:=@Int.toNat_natCast
theorem x5a:type_of%@List.length_range:=@List.length_range
theorem x5e:type_of%@List.length_set:=@List.length_set
theorem x5o:type_of%@List.filter_cons_of_pos:=@List.filter_cons_of_pos
theorem x6q:type_of%@List.find?_eq_none:=@List.find?_eq_none
theorem x6x:type_of%@List.map_replicate:=@List.map_replicate
theorem x6z:type_of%@Nat.add_assoc:=@Nat.add_assoc
theorem x6w:type_of%@List.filter_cons_of_neg:=@List.filter_cons_of_neg
theorem x6v:type_of%@List.foldl_cons:=@List.foldl_cons
theorem x6u:type_of%@beq_self_eq_true:=@beq_self_eq_true
theorem x6j:type_of%@List.eq_of_mem_replicate:=@List.eq_of_mem_replicate
theorem x6k:type_of%@List.pairwise_cons:=@List.pairwise_cons
theorem x6g:type_of%@Array.getElem?_toList:=@Array.getElem?_toList
theorem x6h:type_of%@List.set_append_right:=@List.set_append_right
theorem x6f:type_of%@Int.toNat_of_nonneg:=@Int.toNat_of_nonneg
theorem x6d:type_of%@beq_iff_eq:=@beq_iff_eq
theorem x6b:type_of%@List.set_cons_zero:=@List.set_cons_zero
theorem x6p:type_of%@Bool.or_eq_true:=@Bool.or_eq_true
theorem x6n:type_of%@List.find?_some:=@List.find?_some
theorem x6m:type_of%@List.mem_map_of_mem:=@List.mem_map_of_mem
theorem x6l:type_of%@List.size_toArray:=@List.size_toArray
theorem x6r:type_of%@Option.some.injEq:=@Option.some.injEq
theorem x6t:type_of%@Array.getElem?_setIfInBounds_ne:=@Array.getElem?_setIfInBounds_ne
theorem x6s:type_of%@Bool.or_eq_false_iff:=@Bool.or_eq_false_iff
theorem x6c:type_of%@List.getElem?_append:=@List.getElem?_append
theorem x6a:type_of%@Nat.lt_of_lt_of_le:=@Nat.lt_of_lt_of_le
theorem x6e:type_of%@Option.map_some:=@Option.map_some
theorem x6i:type_of%@List.mem_or_eq_of_mem_set:=@List.mem_or_eq_of_mem_set
theorem x6o:type_of%@Ne.symm:=@Ne.symm
theorem x7q:type_of%@List.flatMap_append:=@List.flatMap_append
theorem x7x:type_of%@List.getElem?_set:=@List.getElem?_set
theorem x7z:type_of%@Array.getElem?_modify:=@Array.getElem?_modify
theorem x7w:type_of%@Array.getElem?_append_left:=@Array.getElem?_append_left
theorem x7v:type_of%@List.findSome?_eq_none_iff:=@List.findSome?_eq_none_iff
theorem x7u:type_of%@List.getElem?_range:=@List.getElem?_range
theorem x7y:type_of%@List.mergeSort_perm:=@List.mergeSort_perm
theorem x7k:type_of%@Bool.eq_iff_iff:=@Bool.eq_iff_iff
theorem x7g:type_of%@List.length_nil:=@List.length_nil
theorem x7h:type_of%@List.nil_append:=@List.nil_append
theorem x7f:type_of%@List.range_succ:=@List.range_succ
theorem x7d:type_of%@Bool.and_eq_false_iff:=@Bool.and_eq_false_iff
theorem x7b:type_of%@Nat.le_of_ble_eq_true:=@Nat.le_of_ble_eq_true
theorem x7p:type_of%@List.map_map:=@List.map_map
theorem x7n:type_of%@List.foldl_append:=@List.foldl_append
theorem x7m:type_of%@List.find?_cons:=@List.find?_cons
theorem x7l:type_of%@Nat.sub_self:=@Nat.sub_self
theorem x7r:type_of%@Option.map_eq_some_iff:=@Option.map_eq_some_iff
theorem x7t:type_of%@List.exists_of_findSome?_eq_some:=@List.exists_of_findSome?_eq_some
theorem x7s:type_of%@List.take_append_drop:=@List.take_append_drop
theorem x7c:type_of%@List.pairwise_iff_getElem:=@List.pairwise_iff_getElem
theorem x7a:type_of%@List.attachWith_map_subtype_val:=@List.attachWith_map_subtype_val
theorem x7e:type_of%@getElem!_pos:=@getElem!_pos
theorem x7i:type_of%@List.any_eq_false:=@List.any_eq_false
theorem x7o:type_of%@List.replicate_succ:=@List.replicate_succ
theorem x8q:type_of%@Bool.not_eq_true:=@Bool.not_eq_true
theorem x8x:type_of%@List.take_length:=@List.take_length
theorem x8w:type_of%@Int.natCast_nonneg:=@Int.natCast_nonneg
theorem x8u:type_of%@Nat.add_zero:=@Nat.add_zero
theorem x8y:type_of%@decide_eq_true_iff:=@decide_eq_true_iff
theorem x8j:type_of%@Bool.eq_false_iff:=@Bool.eq_false_iff
theorem x8k:type_of%@List.ext_getElem?:=@List.ext_getElem?
theorem x8g:type_of%@List.getElem?_eq_none_iff:=@List.getElem?_eq_none_iff
theorem x8h:type_of%@List.reverse_reverse:=@List.reverse_reverse
theorem x8f:type_of%@List.nodup_nil:=@List.nodup_nil
theorem x8d:type_of%@Array.getElem?_push:=@Array.getElem?_push
theorem x8b:type_of%@List.map_eq_nil_iff:=@List.map_eq_nil_iff
theorem x8p:type_of%@List.getElem?_cons_succ:=@List.getElem?_cons_succ
theorem x8n:type_of%@List.getElem?_cons_zero:=@List.getElem?_cons_zero
theorem x8m:type_of%@List.pairwise_mergeSort:=@List.pairwise_mergeSort
theorem x8l:type_of%@Int.add_assoc:=@Int.add_assoc
theorem x8r:type_of%@sum_cons:=@sum_cons
theorem x8t:type_of%@List.getElem_range:=@List.getElem_range
theorem x8s:type_of%@List.mem_replicate:=@List.mem_replicate
theorem x8c:type_of%@ble_eq:=@ble_eq
theorem x8a:type_of%@Array.getElem?_eq_none:=@Array.getElem?_eq_none
theorem x8e:type_of%@List.length_pos_of_mem:=@List.length_pos_of_mem
theorem x8i:type_of%@Option.map_eq_none_iff:=@Option.map_eq_none_iff
theorem x8o:type_of%@List.Sublist.refl:=@List.Sublist.refl
theorem x9q:type_of%@List.reverse_cons:=@List.reverse_cons
theorem x9x:type_of%@of_decide_eq_true:=@of_decide_eq_true
theorem x9z:type_of%@Array.getElem?_append:=@Array.getElem?_append
theorem x9w:type_of%@List.countP_le_length:=@List.countP_le_length
theorem x9v:type_of%@List.getElem?_toArray:=@List.getElem?_toArray
theorem x9u:type_of%@map_nil:=@map_nil
theorem x9y:type_of%@List.take_zero:=@List.take_zero
theorem x9j:type_of%@Nat.add_comm:=@Nat.add_comm
theorem x9k:type_of%@List.getElem?_range':=@List.getElem?_range'
theorem x9g:type_of%@List.mem_of_mem_take:=@List.mem_of_mem_take
theorem x9h:type_of%@List.nodup_range:=@List.nodup_range
theorem x9f:type_of%@List.not_mem_nil:=@List.not_mem_nil
theorem x9d:type_of%@Nat.lt_succ_self:=@Nat.lt_succ_self
theorem x9p:type_of%@Array.toList_filter:=@Array.toList_filter
theorem x9n:type_of%@List.getElem_of_mem:=@List.getElem_of_mem
theorem x9m:type_of%@List.length_pos_iff:=@List.length_pos_iff
theorem x9l:type_of%@List.length_zipWith:=@List.length_zipWith
theorem x9r:type_of%@beq_eq_false_iff_ne:=@beq_eq_false_iff_ne
theorem x9t:type_of%@List.drop_zero:=@List.drop_zero
theorem x9c:type_of%@Nat.mul_one:=@Nat.mul_one
variable {y:Operand}
inductive AV where
 |any|und
 |tt|ff
 |bool (b:Bool)
 |int (k:IntKind) (n:Int)
 |str (s:List UInt8)
 |nilp|nilf|nils
 |ip (cs:List AV)
 |sl (es:List AV)
 |agg (cs:List AV)
 |tup (vs:List AV)
 |fn (f:FuncId) (caps:List AV)
 |raw (v:Value)
def AV.cells:AV->List AV
 |.agg cs=>cs
 |a=>[a]
def AV.ofS:Value->AV
 |.bool true=>.tt
 |.bool false=>.ff
 |.int k n=>.int k n
 |.string s=>bif ble s.size maxLen then .str s.data.toList else .raw (.string s)
 |.pointer none=>.nilp
 |.slice none 0 0=>.nils
 |.nilFunc=>.nilf
 |v=>.raw v
def AV.ofV:Value->AV
 |.agg cs=>.agg (cs.toList.map AV.ofS)
 |.tuple vs=>if vs.isEmpty then .und else .raw (.tuple vs)
 |v=>AV.ofS v
abbrev Mem:=Nat->Option (Array Value)
def Mem.le(σ τ:Mem):Prop:=∀b c,σ b=some c->τ b=some c
theorem Mem.le_refl(σ:Mem):σ.le σ:=fun _ _ h=>h
theorem Mem.le_trans{σ τ υ:Mem}(h:σ.le τ)(k:τ.le υ):σ.le υ:=fun b c e=>k b c (h b c e)
inductive Rep(σ:Mem):AV->Value->Prop
 |any (v:Value):Rep σ .any v
 |und:Rep σ .und undef
 |tt:Rep σ .tt (.bool true)
 |ff:Rep σ .ff (.bool false)
 |bool (b:Bool):Rep σ (.bool b) (.bool b)
 |int (k:IntKind) (n:Int):Rep σ (.int k n) (.int k n)
 |str (s:List UInt8) (h:s.length<=maxLen):Rep σ (.str s) (.string ⟨s.toArray⟩)
 |nilp:Rep σ .nilp (.pointer none)
 |nilf:Rep σ .nilf .nilFunc
 |nils:Rep σ .nils (.slice none 0 0)
 |raw (v:Value):Rep σ (.raw v) v
 |ip (cs:List AV) (b off:Nat) (cells:Array Value) (u:Nat->Value) (hb:σ b=some cells)
    (hc:∀(j:Nat)(c:AV),cs[j]?=some c->cells[off+j]?=some (u j)) (hr:∀(j:Nat)(c:AV),cs[j]?=some c->Rep σ c (u j)):
    Rep σ (.ip cs) (.pointer (some ⟨b,off,none⟩))
 |nilsl:Rep σ (.sl []) (.slice none 0 0)
 |slz (b:Addr):Rep σ (.sl []) (.slice (some b) 0 0)
 |sl (es:List AV) (b off cap sz:Nat) (cells:Array Value) (u:Nat->Nat->Value) (hb:σ b=some cells)
    (hcap:es.length<=cap) (hmax:cap<=maxLen) (hsz:∀(i:Nat)(e:AV),es[i]?=some e->e.cells.length=sz)
    (hc:∀(i:Nat)(e:AV)(j:Nat)(c:AV),es[i]?=some e->e.cells[j]?=some c->cells[off+i*sz+j]?=some (u i j))
    (hr:∀(i:Nat)(e:AV)(j:Nat)(c:AV),es[i]?=some e->e.cells[j]?=some c->Rep σ c (u i j)):
    Rep σ (.sl es) (.slice (some ⟨b,off,none⟩) es.length cap)
 |agg (cs:List AV) (vs:Array Value) (u:Nat->Value) (hn:vs.size=cs.length)
    (hc:∀(j:Nat)(c:AV),cs[j]?=some c->vs[j]?=some (u j)) (hr:∀(j:Nat)(c:AV),cs[j]?=some c->Rep σ c (u j)):
    Rep σ (.agg cs) (.agg vs)
 |tup (cs:List AV) (vs:Array Value) (u:Nat->Value) (hn:vs.size=cs.length)
    (hc:∀(j:Nat)(c:AV),cs[j]?=some c->vs[j]?=some (u j)) (hr:∀(j:Nat)(c:AV),cs[j]?=some c->Rep σ c (u j)):
    Rep σ (.tup cs) (.tuple vs)
 |fn (f:FuncId) (cs:List AV) (vs:Array Value) (u:Nat->Value) (hn:vs.size=cs.length)
    (hc:∀(j:Nat)(c:AV),cs[j]?=some c->vs[j]?=some (u j)) (hr:∀(j:Nat)(c:AV),cs[j]?=some c->Rep σ c (u j)):
    Rep σ (.fn f cs) (.func (.func f) #[] vs)
theorem Rep.mono{σ τ:Mem}(h:σ.le τ){a:AV}{v:Value}(hr:Rep σ a v):Rep τ a v:=by
 induction hr with
 |any v=>exact .any v
 |und=>exact .und
 |tt=>exact .tt
 |ff=>exact .ff
 |bool b=>exact .bool b
 |int k n=>exact .int k n
 |str s h'=>exact .str s h'
 |nilp=>exact .nilp
 |nilf=>exact .nilf
 |nils=>exact .nils
 |raw v=>exact .raw v
 |ip cs b off cells u hb hc _ ih=>exact .ip cs b off cells u (h _ _ hb) hc ih
 |nilsl=>exact .nilsl
 |slz b=>exact .slz b
 |sl es b off cap sz cells u hb h1 h2 h3 hc _ ih=>exact .sl es b off cap sz cells u (h _ _ hb) h1 h2 h3 hc ih
 |agg cs vs u hn hc _ ih=>exact .agg cs vs u hn hc ih
 |tup cs vs u hn hc _ ih=>exact .tup cs vs u hn hc ih
 |fn f cs vs u hn hc _ ih=>exact .fn f cs vs u hn hc ih
theorem Rep.ofS(σ:Mem)(v:Value):Rep σ (AV.ofS v) v:=by
 unfold AV.ofS;split<;>first|exact .tt|exact .ff|exact .int _ _|exact .nilp|exact .nils|exact .nilf|exact .raw _|skip
 rename_i s;by_cases h:s.size<=maxLen
 ·rw[show ble s.size maxLen=true from Nat.ble_eq_true_of_le h,x3p];exact .str s.data.toList h
 ·rw[show ble s.size maxLen=false from by
   cases hb:ble s.size maxLen with
   |false=>rfl
   |true=>exact absurd (x7b hb) h,x3t]
  exact .raw _
theorem Rep.ofV(σ:Mem)(v:Value):Rep σ (AV.ofV v) v:=by
 unfold AV.ofV;split
 ·rename_i cs;refine .agg _ cs (fun j=>cs[j]?.getD undef) (by simp) (fun j c hj=>?_) (fun j c hj=>?_)
  ·have hlt:j<cs.size:=by simpa using(x2o.1 hj).1
   simp[hlt]
  ·have hlt:j<cs.size:=by simpa using(x2o.1 hj).1
   simp[hlt]at hj⊢;subst hj;exact Rep.ofS σ _
 ·rename_i vs;split
  ·rename_i he;have:vs=#[]:=by simpa using he
   subst this;exact .und
  ·exact .raw _
 ·exact Rep.ofS σ v
def AV.one:AV->Bool
 |.tt |.ff |.bool _ |.int _ _ |.str _ |.nilp |.nilf |.nils |.ip _ |.sl _ |.fn _ _ |.raw (.pointer _)=>true
 |_=>false
theorem Rep.oneCell{σ:Mem}{a:AV}{v:Value}(h:Rep σ a v)(h1:a.one=true):v.oneCell'=true:=by
 cases h with
 |raw v=>cases v<;>first|rfl|simp[AV.one]at h1
 |_=>first|rfl|simp[AV.one]at h1
structure BInfo where
 blk:Nat
 cap:Nat
 sz:Nat
 subs:List (Option (Nat×Nat))
 ok:cap<=maxLen
def BInfo.has(i:BInfo)(b:Nat):Prop:=i.blk=b\/∃c,some (b,c)∈i.subs
theorem BInfo.has_blk(i:BInfo):i.has i.blk:=.inl rfl
theorem MM{b c s b':Nat}{h:c<=maxLen}:(BInfo.mk b c s [] h).has b'↔b=b':=by simp[BInfo.has]
inductive XV where
 |row (a n:Nat)
 |rptr (a off:Nat)
 |map
 |iter
def XV.rep:XV->BInfo->Value->Prop
 |.row a n,i,v=>(i.subs[a]?=some none/\n=0/\v=.slice none 0 0)\/∃b c,i.subs[a]?=some (some (b,c))/\n<=c/\v=.slice (some ⟨b,0,none⟩) n c
 |.rptr a off,i,v=>∃b c,i.subs[a]?=some (some (b,c))/\v=.pointer (some ⟨b,off,none⟩)
 |.map,i,v=>v=.map (some i.blk)
 |.iter,i,v=>v=.pointer (some ⟨i.blk,0,none⟩)
theorem TA{d:XV}{i:BInfo}{v:Value}(h:d.rep i v):v.oneCell'=true:=by
 cases d with
 |row a n=>rcases h with⟨_,_,rfl⟩|⟨_,_,_,_,rfl⟩<;>rfl
 |rptr a off=>obtain⟨_,_,_,rfl⟩:=h;rfl
 |map=>cases h;rfl
 |iter=>cases h;rfl
inductive LV where
 |p (a:AV)
 |ptr (k off:Nat)
 |hd (k off len:Nat)
 |agg (vs:List LV)
 |tup (vs:List LV)
 |ext (k:Nat) (d:XV)
abbrev Lab:=Nat->Option BInfo
inductive RepL(σ:Mem)(β:Lab):LV->Value->Prop
 |p {a:AV} {v:Value} (h:Rep σ a v):RepL σ β (.p a) v
 |ptr (k off:Nat) (i:BInfo) (h:β k=some i):RepL σ β (.ptr k off) (.pointer (some ⟨i.blk,off,none⟩))
 |hdn (k:Nat) (h:β k=none):RepL σ β (.hd k 0 0) (.slice none 0 0)
 |hd (k off len:Nat) (i:BInfo) (o:Nat) (h:β k=some i) (hl:off+len<=i.cap) (ho:o=off*i.sz\/(i.cap=off/\0<off)):
    RepL σ β (.hd k off len) (.slice (some ⟨i.blk,o,none⟩) len (i.cap-off))
 |agg (ls:List LV) (vs:Array Value) (u:Nat->Value) (hn:vs.size=ls.length)
    (hc:∀(j:Nat)(l:LV),ls[j]?=some l->vs[j]?=some (u j)) (hr:∀(j:Nat)(l:LV),ls[j]?=some l->RepL σ β l (u j)):
    RepL σ β (.agg ls) (.agg vs)
 |tup (ls:List LV) (vs:Array Value) (u:Nat->Value) (hn:vs.size=ls.length)
    (hc:∀(j:Nat)(l:LV),ls[j]?=some l->vs[j]?=some (u j)) (hr:∀(j:Nat)(l:LV),ls[j]?=some l->RepL σ β l (u j)):
    RepL σ β (.tup ls) (.tuple vs)
 |ext (k:Nat) (d:XV) (i:BInfo) (v:Value) (h:β k=some i) (hd:d.rep i v):RepL σ β (.ext k d) v
theorem RepL.mono{σ τ:Mem}{β:Lab}(h:σ.le τ){l:LV}{v:Value}(hr:RepL σ β l v):RepL τ β l v:=by
 induction hr with
 |p hr=>exact .p (hr.mono h)
 |ptr k off i hk=>exact .ptr k off i hk
 |hdn k hk=>exact .hdn k hk
 |hd k off len i o hk hl ho=>exact .hd k off len i o hk hl ho
 |agg ls vs u hn hc _ ih=>exact .agg ls vs u hn hc ih
 |tup ls vs u hn hc _ ih=>exact .tup ls vs u hn hc ih
 |ext k d i v h hd=>exact .ext k d i v h hd
def LV.free(k:Nat):LV->Bool
 |.p _=>true
 |.ptr j _=> !(j==k)
 |.hd j _ _=> !(j==k)
 |.agg vs=>freeAll k vs
 |.tup vs=>freeAll k vs
 |.ext j _=> !(j==k)
where freeAll (k:Nat):List LV->Bool
 |[]=>true
 |v::r=>LV.free k v&&freeAll k r
theorem XY{k:Nat}:∀{vs:List LV},LV.free.freeAll k vs=true->∀(j:Nat)(l:LV),vs[j]?=some l->l.free k=true
 |[],_,_,_,h=>by simp at h
 | v::r,h,0,l,hj=>by
   simp only[LV.free.freeAll,x3h]at h;simp at hj;subst hj;exact h.1
 | v::r,h,j+1,l,hj=>by
   simp only[LV.free.freeAll,x3h]at h;exact XY h.2 j l (by simpa using hj)
def Lab.set(β:Lab)(k:Nat)(i:Option BInfo):Lab:=fun j=>if j=k then i else β j
theorem RepL.set{σ:Mem}{β:Lab}{l:LV}{v:Value}(hr:RepL σ β l v){k:Nat}(i:Option BInfo)(hf:l.free k=true):RepL σ (β.set k i) l v:=by
 induction hr with
 |p hr=>exact .p hr
 |ptr j off i' hk=>exact .ptr j off i' (by simp[LV.free]at hf;simp[Lab.set,hf,hk])
 |hdn j hk=>exact .hdn j (by simp[LV.free]at hf;simp[Lab.set,hf,hk])
 |hd j off len i' o hk hl ho=>exact .hd j off len i' o (by simp[LV.free]at hf;simp[Lab.set,hf,hk]) hl ho
 |agg ls vs u hn hc _ ih=>exact .agg ls vs u hn hc (fun j l hl=>ih j l hl (XY (by simpa[LV.free]using hf) j l hl))
 |tup ls vs u hn hc _ ih=>exact .tup ls vs u hn hc (fun j l hl=>ih j l hl (XY (by simpa[LV.free]using hf) j l hl))
 |ext j d i' v hk hd=>exact .ext j d i' v (by simp[LV.free]at hf;simp[Lab.set,hf,hk]) hd
inductive XC where
 |mat (e e2:TypeId) (sz:Nat) (rows:List (List AV)) (hole:List Nat)
 |map (l:List (Value×AV))
 |cells (e:TypeId) (l:List (Nat×AV))
 |mapr (e sz:Nat) (l:List (List UInt8×List AV)) (hole:Option (List UInt8))
 |iter (l:List (List UInt8×AV)) (cur:Option (List UInt8×AV))
def Zc(es:Array MapEntry)(clock:Nat):Prop:=(es.toList.map (·.born)).Nodup/\∀x∈es.toList,x.born<clock
def XC.holds:XC->Mem->Option BInfo->World->Prop
 |.mat e e2 sz rows hole,σ,o,w=>(o=none/\rows=[])\/∃i vs,o=some i/\i.sz=1/\w.heap[i.blk]?=some (.cells vs e (0,0))/\vs.size=i.cap/\rows.length<=i.cap/\i.cap<=maxLen/\
    i.subs.length=rows.length/\(∀(a b c:Nat),i.subs[a]?=some (some (b,c))->i.blk≠b/\∀a' c',i.subs[a']?=some (some (b,c'))->a'=a)/\
    ∀ (a:Nat) (row:List AV),rows[a]?=some row->(a∈hole->i.subs[a]?=some none)/\(a∉hole->
     (i.subs[a]?=some none/\row=[]/\vs[a]?=some (.slice none 0 0))\/∃b c ws,i.subs[a]?=some (some (b,c))/\vs[a]?=some (.slice (some ⟨b,0,none⟩) row.length c)/\w.heap[b]?=some (.cells ws e2 (0,0))/\
       ws.size=c*sz/\row.length<=c/\c<=maxLen/\∀(m:Nat)(x:AV),row[m]?=some x->x.cells.length=sz/\∀(j:Nat)(c':AV),x.cells[j]?=some c'->∃u:Value,ws[m*sz+j]?=some u/\Rep σ c' u)
 |.map l,σ,o,w=>∃i es clock,o=some i/\w.heap[i.blk]?=some (.map es clock)/\Zc es clock/\es.size=l.length/\∀(m:Nat)(x:Value×AV),l[m]?=some x->∃e:MapEntry,es[m]?=some e/\e.key=x.1/\Rep σ x.2 e.val
 |.cells e l,σ,o,w=>(l.map (·.1)).Nodup/\∀x∈l,∃i u,o=some i/\i.has x.1/\w.heap[x.1]?=some (.cells #[u] e (0,0))/\Rep σ x.2 u
 |.mapr e sz l hole,σ,o,w=>∃i es clock,o=some i/\w.heap[i.blk]?=some (.map es clock)/\Zc es clock/\es.size=l.length/\i.subs.length=l.length/\(l.map (·.1)).Nodup/\
    (∀(a b c:Nat),i.subs[a]?=some (some (b,c))->i.blk≠b/\∀a' c',i.subs[a']?=some (some (b,c'))->a'=a)/\
    ∀ (a:Nat) (x:List UInt8×List AV),l[a]?=some x->∃e':MapEntry,es[a]?=some e'/\e'.key=.string ⟨x.1.toArray⟩/\(hole=some x.1->i.subs[a]?=some none)/\(hole≠some x.1->
     ∃b c ws,i.subs[a]?=some (some (b,c))/\e'.val=.slice (some ⟨b,0,none⟩) x.2.length c/\w.heap[b]?=some (.cells ws e (0,0))/\
      ws.size=c*sz/\x.2.length<=c/\c<=maxLen/\∀(m:Nat)(y:AV),x.2[m]?=some y->y.cells.length=sz/\∀(j:Nat)(c':AV),y.cells[j]?=some c'->∃u:Value,ws[m*sz+j]?=some u/\Rep σ c' u)
 |.iter l cur,σ,o,w=>∃i m es clock since seen,o=some i/\i.subs=[some (m,0)]/\w.heap[i.blk]?=some (.mapIter (some m) since seen clock)/\w.heap[m]?=some (.map es clock)/\
    (es.toList.map (·.born)).Nodup/\(∀x∈es.toList,x.born<since)/\since<=clock/\(es.filter fun x=> !seen.contains x.born).size=l.length/\
    (∀(j:Nat)(x:List UInt8×AV),l[j]?=some x->∃e:MapEntry,(es.filter fun x=> !seen.contains x.born)[j]?=some e/\e.key=.string ⟨x.1.toArray⟩/\Rep σ x.2 e.val)/\
    ∀x,cur=some x->∃e∈es.toList,∃seen0,seen=push seen0 e.born/\e.key=.string ⟨x.1.toArray⟩/\Rep σ x.2 e.val
theorem XC.holds.mono{σ τ:Mem}{o:Option BInfo}{w w':World}{d:XC}(h:d.holds σ o w)(hm:σ.le τ)(hw:∀i,o=some i->∀b,i.has b->w'.heap[b]?=w.heap[b]?):d.holds τ o w':=by
 cases d with
 | mat e e2 sz rows hole=>
   rcases h with h|⟨i,vs,hi,h1,hh,h2,h3,h4,h5,h6,hc⟩
   ·exact .inl h
   ·refine .inr ⟨i,vs,hi,h1,(hw i hi _ i.has_blk).trans hh,h2,h3,h4,h5,h6,fun a row hr=>⟨(hc a row hr).1,fun hn=>?_⟩⟩;rcases(hc a row hr).2 hn with h|⟨b,c,ws,h7,h8,h9,h10,h11,h12,h13⟩
    ·exact .inl h
    ·refine .inr ⟨b,c,ws,h7,h8,(hw i hi b (.inr ⟨c,x3k h7⟩)).trans h9,h10,h11,h12,fun m x hx=>⟨(h13 m x hx).1,fun j c' hj=>?_⟩⟩;obtain⟨u,h14,h15⟩:=(h13 m x hx).2 j c' hj;exact⟨u,h14,h15.mono hm⟩
 | map l=>
   obtain⟨i,es,clock,hi,hh,h0,h1,hc⟩:=h;refine⟨i,es,clock,hi,(hw i hi _ i.has_blk).trans hh,h0,h1,fun m x hx=>?_⟩;obtain⟨e,h2,h3,h4⟩:=hc m x hx;exact⟨e,h2,h3,h4.mono hm⟩
 | cells e l=>
   refine⟨h.1,fun x hx=>?_⟩;obtain⟨i,u,hi,hb,hh,hr⟩:=h.2 x hx;exact⟨i,u,hi,hb,(hw i hi _ hb).trans hh,hr.mono hm⟩
 | mapr e sz l hole=>
   obtain⟨i,es,clock,hi,hh,h0,h1,h2,h3,h4,hc⟩:=h;refine⟨i,es,clock,hi,(hw i hi _ i.has_blk).trans hh,h0,h1,h2,h3,h4,fun a x hx=>?_⟩;obtain⟨e',h5,h6,h7,h8⟩:=hc a x hx;refine⟨e',h5,h6,h7,fun hn=>?_⟩;obtain⟨b,c,ws,g1,g2,g3,g4,g5,g6,g7⟩:=h8 hn;refine⟨b,c,ws,g1,g2,(hw i hi b (.inr ⟨c,x3k g1⟩)).trans g3,g4,g5,g6,fun m y hy=>⟨(g7 m y hy).1,fun j c' hj=>?_⟩⟩;obtain⟨u,h14,h15⟩:=(g7 m y hy).2 j c' hj;exact⟨u,h14,h15.mono hm⟩
 | iter l cur=>
   obtain⟨i,m,es,clock,since,seen,hi,h1,h2,h3,h4,h5,h6,h7,h8,h9⟩:=h;refine⟨i,m,es,clock,since,seen,hi,h1,(hw i hi _ i.has_blk).trans h2,(hw i hi m (.inr ⟨0,by rw[h1];exact x2r⟩)).trans h3,h4,h5,h6,h7,fun j x hx=>?_,fun x hx=>?_⟩
   ·obtain⟨e,g1,g2,g3⟩:=h8 j x hx;exact⟨e,g1,g2,g3.mono hm⟩
   ·obtain⟨e,g0,s0,g1,g2,g3⟩:=h9 x hx;exact⟨e,g0,s0,g1,g2,g3.mono hm⟩
inductive Chunk where
 |obj (e:TypeId) (cs:List LV)
 |own (e:TypeId) (sz:Nat) (es:List AV)
 |ext (d:XC)
def Chunk.free(k:Nat):Chunk->Bool
 |.obj _ cs=>LV.free.freeAll k cs
 |.own _ _ _=>true
 |.ext _=>true
def Chunk.holds(σ:Mem)(β:Lab)(w:World)(k:Nat):Chunk->Prop
 |.obj e cs=>∃i vs,β k=some i/\w.heap[i.blk]?=some (.cells vs e (0,0))/\vs.size=cs.length/\
    ∀(j:Nat)(l:LV),cs[j]?=some l->∃u:Value,vs[j]?=some u/\RepL σ β l u
 |.own e sz es=>(β k=none/\es=[])\/∃i vs,β k=some i/\i.sz=sz/\w.heap[i.blk]?=some (.cells vs e (0,0))/\
    vs.size=i.cap*sz/\es.length<=i.cap/\i.cap<=maxLen/\
    ∀(m:Nat)(x:AV),es[m]?=some x->x.cells.length=sz/\∀(j:Nat)(c:AV),x.cells[j]?=some c->∃u:Value,vs[m*sz+j]?=some u/\Rep σ c u
 |.ext d=>d.holds σ (β k) w
theorem Chunk.holds.mono{σ τ:Mem}{β:Lab}{w w':World}{k:Nat}{c:Chunk}(h:c.holds σ β w k)(hm:σ.le τ)(hw:∀i,β k=some i->∀b,i.has b->w'.heap[b]?=w.heap[b]?):c.holds τ β w' k:=by
 cases c with
 | obj e cs=>
   obtain⟨i,vs,hi,hh,hn,hc⟩:=h;exact⟨i,vs,hi,(hw i hi _ i.has_blk).trans hh,hn,fun j l hl=>let ⟨u,h1,h3⟩:=hc j l hl;⟨u,h1,h3.mono hm⟩⟩
 | own e sz es=>
   rcases h with h|⟨i,vs,hi,hs,hh,hn,h1,h2,hc⟩
   ·exact .inl h
   ·refine .inr ⟨i,vs,hi,hs,(hw i hi _ i.has_blk).trans hh,hn,h1,h2,fun m x hx=>⟨(hc m x hx).1,fun j c hj=>?_⟩⟩;obtain⟨u,h3,h5⟩:=(hc m x hx).2 j c hj;exact⟨u,h3,h5.mono hm⟩
 |ext d=>exact XC.holds.mono (d:=d) h hm hw
theorem Chunk.holds.set{σ:Mem}{β:Lab}{w:World}{k:Nat}{c:Chunk}(h:c.holds σ β w k){k':Nat}(i':Option BInfo)(hne:k≠k')(hf:c.free k'=true):
  c.holds σ (β.set k' i') w k:=by
 cases c with
 | obj e cs=>
   obtain⟨i,vs,hi,hh,hn,hc⟩:=h;exact⟨i,vs,by simp[Lab.set,hne,hi],hh,hn,fun j l hl=>let ⟨u,h1,h3⟩:=hc j l hl;⟨u,h1,h3.set i' (XY hf j l hl)⟩⟩
 | own e sz es=>
   rcases h with h|⟨i,vs,hi,rest⟩
   ·exact .inl ⟨by simp[Lab.set,hne,h.1],h.2⟩
   ·exact .inr ⟨i,vs,by simp[Lab.set,hne,hi],rest⟩
 | ext d=>
   have:(β.set k' i') k=β k:=by simp[Lab.set,hne]
   show d.holds σ ((β.set k' i') k) w;rw[this];exact h
def LV.one:LV->Bool
 |.p a=>a.one
 |.ptr _ _ |.hd _ _ _ |.ext _ _=>true
 |_=>false
theorem RepL.oneCell{σ:Mem}{β:Lab}{l:LV}{v:Value}(h:RepL σ β l v)(h1:l.one=true):v.oneCell'=true:=by
 cases h with
 |p h=>exact h.oneCell h1
 |agg=>simp[LV.one]at h1
 |tup=>simp[LV.one]at h1
 |ext k d i v h hd=>exact TA (d:=d) hd
 |_=>rfl
abbrev Heap:=List (Nat×Chunk)
structure St where
 sl:List (Nat×LV)
 H:Heap
def getS:List (Nat×LV)->Nat->LV
 |[],_=>.p .any
 |(j,v)::r,i=>bif j==i then v else getS r i
def Mem.lies(σ:Mem)(w:World):Prop:=∀b c,σ b=some c->∃e fr,w.heap[b]?=some (.cells c e fr)
structure HRel(σ:Mem)(β:Lab)(H:Heap)(w:World):Prop where
 mem:σ.lies w
 chunks:∀k c,(k,c)∈H->c.holds σ β w k
 nodup:(H.map (·.1)).Nodup
 apart:∀k∈H.map (·.1),∀i,β k=some i->∀b,i.has b->σ b=none/\b<w.heap.size
 inj:∀k∈H.map (·.1),∀k'∈H.map (·.1),∀i i',β k=some i->β k'=some i'->∀b,i.has b->i'.has b->k=k'
structure Rel(N:Nat)(σ:Mem)(β:Lab)(s:St)(a:Act)(w:World):Prop where
 size:a.tmps.size=N
 defers:a.defers=[]
 slots:∀i,RepL σ β (getS s.sl i) (a.tmps.getD i undef)
 heap:HRel σ β s.H w
def owns(β:Lab)(H:Heap)(b:Nat):Prop:=∃k∈H.map (·.1),∃i,β k=some i/\i.has b
structure Frm(B:Nat->Prop)(w w':World):Prop where
 os:w'.os=w.os
 tape:w'.tape=w.tape
 output:w'.output=w.output
 drawn:w.drawn<=w'.drawn
 size:w.heap.size<=w'.heap.size
 block:∀k,k<w.heap.size->¬B k->w'.heap[k]?=w.heap[k]?
def Old(w w':World):Prop:=∀b,b<w.heap.size->w'.heap[b]?=w.heap[b]?
theorem Old.refl(w:World):Old w w:=fun _ _=>rfl
theorem Old.trans{w w' w'':World}(h:Old w w')(k:Old w' w''):Old w w'':=fun b hb=>by
 have h1:=h b hb;have hlt:b<w'.heap.size:=by
  rw[x5v hb]at h1;exact(x3r.1 h1).1
 exact(k b hlt).trans h1
theorem Frm.refl(B:Nat->Prop)(w:World):Frm B w w:=⟨rfl,rfl,rfl,x3g _,x3g _,fun _ _ _=>rfl⟩
structure Later(σ:Mem)(β:Lab)(H:Heap)(w:World)(σ':Mem)(β':Lab)(H':Heap)(w':World):Prop where
 le:σ.le σ'
 frm:Frm (owns β H) w w'
 mem:∀b,σ b=none->σ' b≠none->owns β H b\/w.heap.size<=b
 own:∀b,owns β' H' b->owns β H b\/w.heap.size<=b
 pin:∀k,1000<=k->k<2000->β' k=β k
theorem Later.refl(σ:Mem)(β:Lab)(H:Heap)(w:World):Later σ β H w σ β H w:=
 ⟨Mem.le_refl σ,Frm.refl _ _,fun _ h h'=>absurd h h',fun _ h=>.inl h,fun _ _ _=>rfl⟩
theorem Later.trans{σ σ' σ'':Mem}{β β' β'':Lab}{H H' H'':Heap}{w w' w'':World}(h:Later σ β H w σ' β' H' w')(k:Later σ' β' H' w' σ'' β'' H'' w''):
  Later σ β H w σ'' β'' H'' w'':=by
 refine⟨Mem.le_trans h.le k.le,⟨k.frm.os.trans h.frm.os,k.frm.tape.trans h.frm.tape,k.frm.output.trans h.frm.output,x4k h.frm.drawn k.frm.drawn,x4k h.frm.size k.frm.size,fun b hb hn=>?_⟩,fun b h0 h1=>?_,fun b hb=>?_,fun j h0 h1=>(k.pin j h0 h1).trans (h.pin j h0 h1)⟩
 ·refine(k.frm.block b (x6a hb h.frm.size) fun ho=>?_).trans (h.frm.block b hb hn);rcases h.own b ho with h'|h'
  ·exact hn h'
  ·omega
 ·cases hb:σ' b with
  | none=>
    rcases k.mem b hb h1 with h'|h'
    ·exact h.own b h'
    ·exact .inr (x4k h.frm.size h')
  |some c=>exact h.mem b h0 (by simp[hb])
 ·rcases k.own b hb with h'|h'
  ·exact h.own b h'
  ·exact .inr (x4k h.frm.size h')
structure TyI where
 desc:TypeDesc
 size:Nat
 bytes:Nat
 zero:Value
abbrev Tab:=List (Nat×TyI)
def Tab.get:Tab->Nat->Option TyI
 |[],_=>none
 |(j,i)::r,t=>bif j==t then some i else Tab.get r t
def Q7:TypeDesc->Bool
 |.struct _ |.array _ _=>true
 |_=>false
structure TyOK(P:Program)(t:Nat)(i:TyI):Prop where
 under:P.underlying t=some i.desc
 info:(P.info? t).map (fun f=>(f.size,f.bytes,f.zero))=some (i.size,i.bytes,some i.zero)
def TabOK(P:Program)(T:Tab):Prop:=∀t i,T.get t=some i->TyOK P t i
theorem TabOK.nil(P:Program):TabOK P []:=fun _ _ h=>by simp[Tab.get]at h
theorem TabOK.cons{P:Program}{T:Tab}{t:Nat}{i:TyI}(h1:P.underlying t=some i.desc)(h2:(P.info? t).map (fun f=>(f.size,f.bytes,f.zero))=some (i.size,i.bytes,some i.zero))(h:TabOK P T):TabOK P ((t,i)::T):=by
 intro t' i' h';simp only[Tab.get]at h';by_cases ht:t=t'
 ·subst ht;simp at h';subst h';exact⟨h1,h2⟩
 ·have:(t==t')=false:=by simp[ht]
  simp only[this,x3t]at h';exact h _ _ h'
theorem TyOK.getInfo{P:Program}{t:Nat}{i:TyI}(h:TyOK P t i):∃f,P.info? t=some f/\f.size=i.size/\f.bytes=i.bytes/\f.zero=some i.zero:=by
 have:=h.info;cases hf:P.info? t with
 |none=>simp[hf]at this
 |some f=>simp[hf]at this;exact⟨f,rfl,this.1,this.2.1,this.2.2⟩
theorem TyOK.sizeOf{P:Program}{t:Nat}{i:TyI}(h:TyOK P t i)(w:World):(sizeOf t).run P w=.ok i.size w:=by
 obtain⟨f,hf,h1,_⟩:=h.getInfo;simp[Go.sizeOf,typeInfo,hf,h1]
theorem TyOK.zeroValue{P:Program}{t:Nat}{i:TyI}(h:TyOK P t i)(w:World):(zeroValue t).run P w=.ok i.zero w:=by
 obtain⟨f,hf,_,_,h1⟩:=h.getInfo;simp[Go.zeroValue,typeInfo,hf,h1]
theorem TyOK.runUnder{P:Program}{t:Nat}{i:TyI}(h:TyOK P t i)(w:World):(underlying t).run P w=.ok i.desc w:=run_underlying h.under w
theorem TyOK.isAgg{P:Program}{t:Nat}{i:TyI}(h:TyOK P t i)(w:World):(isAgg t).run P w=.ok (Q7 i.desc) w:=by
 simp only[Go.isAgg,Sem.run_bind,h.runUnder,Result.andThen_ok];cases i.desc<;>rfl
def QM(sl:List (Nat×LV)):Operand->LV
 |.tmp t=>getS sl t
 |.const v=>.p (AV.ofV v)
 |.global g=>.p (.raw (.pointer (some ⟨g,0,none⟩)))
 |.func f=>.p (.fn f [])
theorem QZ{σ:Mem}{β:Lab}{sl:List (Nat×LV)}{a:Act}(h:∀i,RepL σ β (getS sl i) (a.tmps.getD i undef))(x:Operand):RepL σ β (QM sl x) (a.eval x):=by
 cases x with
 |tmp t=>exact h t
 |const v=>exact .p (.ofV σ v)
 |global g=>exact .p (.raw _)
 |func f=>exact .p (.fn f [] #[] (fun _=>undef) rfl (by simp) (by simp))
structure Br(t:Bool)(A B:Prop):Prop where
 yes:t=true->A
 no:t=false->B
theorem Br.tt{A B:Prop}(h:A):Br true A B:=⟨fun _=>h,fun h=>(by cases h)⟩
theorem Br.ff{A B:Prop}(h:B):Br false A B:=⟨fun h=>(by cases h),fun _=>h⟩
def InK(k:IntKind)(n:Int):Prop:=k.min<=n/\n<=k.max
theorem q5x{k:IntKind}{n:Int}(h:InK k n):k.wrap n=n:=by
 obtain⟨h1,h2⟩:=h;cases k<;>simp[IntKind.min,IntKind.max,IntKind.signed,IntKind.bits]at h1 h2<;>simp[IntKind.wrap,IntKind.signed,IntKind.bits]<;>omega
inductive Wr(k:IntKind)(n:Int)(K:Int->Prop):Prop
 |fit (h:InK k n) (hk:K n)
 |wrap (hk:K (k.wrap n))
theorem Wr.get{k:IntKind}{n:Int}{K:Int->Prop}(h:Wr k n K):K (k.wrap n):=by
 cases h with
 |fit h hk=>rwa[q5x h]
 |wrap hk=>exact hk
theorem Wr.i64{n:Int}{K:Int->Prop}(h1 : -9223372036854775808<=n)(h2:n<=9223372036854775807)(hk:K n):Wr .i64 n K:=
 .fit ⟨by simp[IntKind.min,IntKind.signed,IntKind.bits];omega,by simp[IntKind.max,IntKind.signed,IntKind.bits];omega⟩ hk
inductive IdxK(es:List AV)(sz:Nat)(n:Int)(K:List AV->Prop):Prop
 |mk (k:Nat) (e:AV) (hk:n=k) (he:es[k]?=some e) (hs:e.cells.length=sz) (hK:K e.cells)
inductive IdxL(len:Nat)(n:Int)(K:Nat->Prop):Prop
 |mk (i:Nat) (hn:n=i) (hi:i<len) (hK:K i)
inductive LdOwn(es:List AV)(sz off:Nat)(K:List AV->Prop):Prop
 |mk (m j:Nat) (e:AV) (ho:off=m*sz+j) (he:es[m]?=some e) (hK:K (e.cells.drop j))
inductive RowK(rows:List (List AV))(hole:List Nat)(off:Nat)(K:Nat->Nat->Prop):Prop
 |mk (a:Nat) (row:List AV) (ho:off=a) (hr:rows[a]?=some row) (hh:a∉hole) (hK:K a row.length)
inductive RLd(rows:List (List AV))(hole:List Nat)(a sz off:Nat)(K:List AV->Prop):Prop
 |mk (row:List AV) (m j:Nat) (e:AV) (hr:rows[a]?=some row) (hh:a∉hole) (ho:off=m*sz+j) (he:row[m]?=some e) (hK:K (e.cells.drop j))
inductive SlK(len:Nat)(lo hi:Option Int)(K:Nat->Nat->Prop):Prop
 |mk (l h:Nat) (hl:lo.getD 0=l) (hh:hi.getD len=h) (h1:l<=h) (h2:h<=len) (hK:K l h)
inductive ByteK(s:List UInt8)(n:Int)(K:UInt8->Prop):Prop
 |mk (k:Nat) (c:UInt8) (hk:n=k) (hc:s[k]?=some c) (hK:K c)
def SE:Nat->List AV->(List AV->Prop)->Prop
 |0,_,K=>K []
 |n+1,c::r,K=>SE n r fun l=>K (c::l)
 |_+1,[],_=>False
theorem Hv:∀{n:Nat}{cs:List AV}{K:List AV->Prop},SE n cs K->K (cs.take n)/\n<=cs.length
 |0,_,_,h=>⟨by simpa[SE]using h,x3z _⟩
 | n+1,c::r,K,h=>by
   have:=Hv (n:=n) (cs:=r) h;exact⟨by simpa using this.1,by simpa using this.2⟩
 |n+1,[],K,h=>by simp[SE]at h
def Hw:Nat->List LV->(List LV->Prop)->Prop
 |0,_,K=>K []
 |n+1,c::r,K=>Hw n r fun l=>K (c::l)
 |_+1,[],_=>False
theorem MK:∀{n:Nat}{cs:List LV}{K:List LV->Prop},Hw n cs K->K (cs.take n)/\n<=cs.length
 |0,_,_,h=>⟨by simpa[Hw]using h,x3z _⟩
 | n+1,c::r,K,h=>by
   have:=MK (n:=n) (cs:=r) h;exact⟨by simpa using this.1,by simpa using this.2⟩
 |n+1,[],K,h=>by simp[Hw]at h
def ldW(T:Tab)(t:Nat)(cs:List AV)(K:AV->Prop):Prop:=
 match T.get t with
 |none=>False
 | some i=>match Q7 i.desc with
   |true=>SE i.size cs fun l=>K (.agg l)
   | false=>match cs with
     |c::_=>K c
     |[]=>False
def P7:List LV->Option (List AV)
 |[]=>some []
 |.p a::r=>(P7 r).map (a :: ·)
 |_::_=>none
def mkAgg(ls:List LV):LV:=match P7 ls with
 |some l=>.p (.agg l)
 |none=>.agg ls
def mkTup(ls:List LV):LV:=match P7 ls with
 |some l=>.p (.tup l)
 |none=>.tup ls
theorem GG:∀{ls:List LV}{l:List AV},P7 ls=some l->ls=l.map .p
 |[],l,h=>by simp[P7]at h;subst h;rfl
 | .p a::r,l,h=>by
   simp only[P7,x7r]at h;obtain⟨l',h1,rfl⟩:=h;simp[GG h1]
 |.ptr _ _::_,_,h=>by simp[P7]at h
 |.hd _ _ _::_,_,h=>by simp[P7]at h
 |.agg _::_,_,h=>by simp[P7]at h
 |.tup _::_,_,h=>by simp[P7]at h
 |.ext _ _::_,_,h=>by simp[P7]at h
theorem RepL.mkAgg{σ:Mem}{β:Lab}{ls:List LV}{vs:Array Value}(u:Nat->Value)(hn:vs.size=ls.length)(hc:∀(j:Nat)(l:LV),ls[j]?=some l->vs[j]?=some (u j))(hr:∀(j:Nat)(l:LV),ls[j]?=some l->RepL σ β l (u j)):RepL σ β (mkAgg ls) (.agg vs):=by
 unfold Ab.mkAgg;split
 ·rename_i l hl;have:=GG hl;subst this;refine .p (.agg l vs u (by simpa using hn) (fun j c hj=>hc j (.p c) (by simp[hj])) fun j c hj=>?_);have:=hr j (.p c) (by simp[hj]);cases this with
  |p h=>exact h
 ·exact .agg ls vs u hn hc hr
theorem RepL.mkTup{σ:Mem}{β:Lab}{ls:List LV}{vs:Array Value}(u:Nat->Value)(hn:vs.size=ls.length)(hc:∀(j:Nat)(l:LV),ls[j]?=some l->vs[j]?=some (u j))(hr:∀(j:Nat)(l:LV),ls[j]?=some l->RepL σ β l (u j)):RepL σ β (mkTup ls) (.tuple vs):=by
 unfold Ab.mkTup;split
 ·rename_i l hl;have:=GG hl;subst this;refine .p (.tup l vs u (by simpa using hn) (fun j c hj=>hc j (.p c) (by simp[hj])) fun j c hj=>?_);have:=hr j (.p c) (by simp[hj]);cases this with
  |p h=>exact h
 ·exact .tup ls vs u hn hc hr
def ldL(T:Tab)(t:Nat)(cs:List LV)(K:LV->Prop):Prop:=
 match T.get t with
 |none=>False
 | some i=>match Q7 i.desc with
   |true=>Hw i.size cs fun l=>K (mkAgg l)
   | false=>match cs with
     |c::_=>K c
     |[]=>False
def getH:Heap->Nat->Option Chunk
 |[],_=>none
 |(j,c)::r,k=>bif j==k then some c else getH r k
theorem QG:∀{H:Heap}{k:Nat}{c:Chunk},getH H k=some c->(k,c)∈H
 |[],_,_,h=>by simp[getH]at h
 | (j,c')::r,k,c,h=>by
   simp only[getH]at h;by_cases hj:j=k
   ·subst hj;simp at h;subst h;simp
   ·have:(j==k)=false:=by simp[hj]
    simp only[this,x3t]at h;exact x2c _ (QG h)
theorem VA{P:Program}{T:Tab}(hT:TabOK P T){t:Nat}{i:TyI}(hi:T.get t=some i){w:World}{b off:Nat}{cells:Array Value}{e:TypeId}{fr:Nat×Nat}(hb:w.heap[b]?=some (.cells cells e fr)):
  (Q7 i.desc=true->(i.size=0\/off+i.size<=cells.size)->(Instr.loadAt t (.pointer (some ⟨b,off,none⟩))).run P w=.ok (.agg ((cells.toList.drop off).take i.size).toArray) w)/\
  (Q7 i.desc=false->∀v,cells[off]?=some v->(Instr.loadAt t (.pointer (some ⟨b,off,none⟩))).run P w=.ok v w):=by
 have hok:=hT t i hi;have hcell:∀o,w.cell? ⟨b,o,none⟩=cells[o]?:=fun o=>by simp[World.cell?,hb]
 have hadd:∀j,(⟨b,off,none⟩:Addr).add j=⟨b,off+j,none⟩:=fun j=>by unfold Addr.add;split<;>simp_all
 constructor
 ·intro ha hs;have hlen:((cells.toList.drop off).take i.size).length=i.size:=by
   simp only[x3m,x5f,x5b];omega
  have hl:=run_loadCells_list (P:=P) w ⟨b,off,none⟩ ((cells.toList.drop off).take i.size) (fun j v hj=>by
    rw[hadd,hcell];rw[x4g]at hj;split at hj
    ·simpa using hj
    ·cases hj)
  rw[hlen]at hl;simp[Instr.loadAt,Instr.sureAddr,loadVar,hok.isAgg,ha,hok.sizeOf,hl]
 ·intro ha v hv;simp[Instr.loadAt,Instr.sureAddr,loadVar,hok.isAgg,ha,hcell,hv]
theorem Aj{P:Program}{T:Tab}(hT:TabOK P T){t:Nat}{cs:List AV}{K:AV->Prop}(h:ldW T t cs K){σ:Mem}{v:Value}(hr:Rep σ (.ip cs) v):
  ∃c u,K c/\Rep σ c u/\∀w',σ.lies w'->(Instr.loadAt t v).run P w'=.ok u w':=by
 cases hr with
 | ip _ b off cells u hb hc hrr=>
   unfold ldW at h;split at h
   ·exact h.elim
   rename_i i hi;split at h
   ·rename_i ha;obtain⟨hK,hlen⟩:=Hv h;have hfit:i.size=0\/off+i.size<=cells.size:=by
     by_cases h0:i.size=0
     ·exact .inl h0
     ·refine .inr ?_;have:=hc (i.size-1) (cs[i.size-1]'(by omega)) (by simp);have:=(x3r.1 this).1;omega
    refine⟨_,_,hK,.agg _ ((cells.toList.drop off).take i.size).toArray u (by simp only[x6l,x3m,x5f,x5b];omega) (fun j c hj=>?_) (fun j c hj=>?_),fun w' hw'=>?_⟩
    ·rw[x4g]at hj;split at hj
     ·rename_i hj1;have:=hc j c hj;simp[hj1,this]
     ·cases hj
    ·rw[x4g]at hj;split at hj
     ·exact hrr j c hj
     ·cases hj
    ·obtain⟨e,fr,hh⟩:=hw' b cells hb;exact(VA hT hi hh).1 ha hfit
   ·rename_i ha;split at h
    ·rename_i c r;refine⟨c,u 0,h,hrr 0 c (by simp),fun w' hw'=>?_⟩;obtain⟨e,fr,hh⟩:=hw' b cells hb;exact(VA hT hi hh).2 ha _ (by simpa using hc 0 c (by simp))
    ·exact h.elim
theorem Qq{P:Program}{T:Tab}(hT:TabOK P T){t:Nat}{cs:List LV}{K:LV->Prop}(h:ldL T t cs K){σ:Mem}{β:Lab}{w:World}{b off:Nat}{cells:Array Value}{e:TypeId}{fr:Nat×Nat}(hb:w.heap[b]?=some (.cells cells e fr))(hc:∀(j:Nat)(l:LV),cs[j]?=some l->∃u:Value,cells[off+j]?=some u/\RepL σ β l u):
  ∃c u,K c/\RepL σ β c u/\∀w',w'.heap[b]?=w.heap[b]? ->(Instr.loadAt t (.pointer (some ⟨b,off,none⟩))).run P w'=.ok u w':=by
 unfold ldL at h;split at h
 ·exact h.elim
 rename_i i hi;have hfun:∀j,∃u:Value,∀l,cs[j]?=some l->cells[off+j]?=some u/\RepL σ β l u:=fun j=>by
  cases hj:cs[j]?with
  |none=>exact⟨undef,fun l h=>by cases h⟩
  |some l=>obtain⟨u,h1,h2⟩:=hc j l hj;exact⟨u,fun l' h=>by cases h;exact⟨h1,h2⟩⟩
 obtain⟨u,hu⟩ : ∃u:Nat->Value,∀(j:Nat)(l:LV),cs[j]?=some l->cells[off+j]?=some (u j)/\RepL σ β l (u j):=⟨fun j=>(hfun j).choose,fun j=>(hfun j).choose_spec⟩;clear hfun;split at h
 ·rename_i ha;obtain⟨hK,hlen⟩:=MK h;have hfit:i.size=0\/off+i.size<=cells.size:=by
   by_cases h0:i.size=0
   ·exact .inl h0
   ·refine .inr ?_;obtain⟨u,h1,_⟩:=hc (i.size-1) (cs[i.size-1]'(by omega)) (by simp);have:=(x3r.1 h1).1;omega
  refine⟨_,_,hK,RepL.mkAgg (vs:=((cells.toList.drop off).take i.size).toArray) u (by simp only[x6l,x3m,x5f,x5b];omega) (fun j c hj=>?_) (fun j c hj=>?_),fun w' hw'=>(VA hT hi (hw'.trans hb)).1 ha hfit⟩
  ·rw[x4g]at hj;split at hj
   ·rename_i hj1;have:=(hu j c hj).1;simp[hj1,this]
   ·cases hj
  ·rw[x4g]at hj;split at hj
   ·exact(hu j c hj).2
   ·cases hj
 ·rename_i ha;split at h
  ·rename_i c r;obtain⟨u,h1,h2⟩:=hc 0 c (by simp);exact⟨c,u,h,h2,fun w' hw'=>(VA hT hi (hw'.trans hb)).2 ha _ (by simpa using h1)⟩
  ·exact h.elim
structure ValO(P:Program)(hr:Bool)(s:St)(o:Oper)(K:LV->Prop):Prop where
 ok:∀(σ:Mem)(β:Lab)(a:Act)(w:World),(∀i,RepL σ β (getS s.sl i) (a.tmps.getD i undef))->HRel σ β s.H w->
  ∃v u,K v/\RepL σ β v u/\∀w',σ.lies w'->(hr=true->Old w w')->(execOp a.eval o).run P w'=.ok (.value u) w'
def PL:LV->Option Bool
 |.p .nilp=>some true
 |.p (.ip _)=>some false
 |.ptr _ _=>some false
 |_=>none
def x1y(op:BinOp)(k:IntKind)(a b:Int)(K:LV->Prop):Prop:=
 match op with
 |.add=>Wr k (a+b) fun n=>K (.p (.int k n))
 |.sub=>Wr k (a-b) fun n=>K (.p (.int k n))
 |.mul=>Wr k (a*b) fun n=>K (.p (.int k n))
 |.quo=>b≠0/\Wr k (a.tdiv b) fun n=>K (.p (.int k n))
 |.rem=>b≠0/\K (.p (.int k (a.tmod b)))
 |.eql=>K (.p (.bool (a==b)))
 |.neq=>K (.p (.bool (a != b)))
 |.lss=>K (.p (.bool (decide (a<b))))
 |.leq=>K (.p (.bool (decide (a<=b))))
 |.gtr=>K (.p (.bool (decide (a>b))))
 |.geq=>K (.p (.bool (decide (a≥b))))
 |_=>False
def x1f(op:BinOp)(s t:List UInt8)(K:LV->Prop):Prop:=
 match op with
 |.add=>s.length+t.length<=maxLen/\K (.p (.str (s++t)))
 |.eql=>K (.p (.bool (s==t)))
 |.neq=>K (.p (.bool (!(s==t))))
 |.lss=>K (.p (.bool (Op.bytesLess s t)))
 |.leq=>K (.p (.bool (Op.bytesLess s t||s==t)))
 |.gtr=>K (.p (.bool (!(Op.bytesLess s t||s==t))))
 |.geq=>K (.p (.bool (!(Op.bytesLess s t))))
 |_=>False
def WD:LV->Option (List LV)
 |.p (.agg cs)=>some (cs.map .p)
 |.agg ls=>some ls
 |l=>bif l.one then some [l]else none
def RR:LV->Option Int
 |.p (.int _ n)=>some n
 |_=>none
def Pz(sl:List (Nat×LV)):Option Operand->Option (Option Int)
 |none=>some none
 |some x=>(RR (QM sl x)).map some
def S9(place:Nat->Option (Nat×Nat))(cells:List LV):List (Nat×LV)->Option (List LV)
 |[]=>some cells
 | (i,v)::r=>match place i with
   |none=>none
   | some (off,size)=>match WD v with
     |none=>none
     |some vs=>bif vs.length==size&&ble (off+size) cells.length then S9 place (cells.take off++vs++cells.drop (off+size)) r else none
def Yc(T:Tab)(d:TypeDesc)(i:Nat):Option (Nat×Nat):=
 match d with
 | .struct fs=>match fs[i]?with
   |some f=>(T.get f.type).map fun x=>(f.offset,x.size)
   |none=>none
 |.array _ e=>(T.get e).map fun x=>(i*x.size,x.size)
 |_=>none
def V7(T:Tab):TypeDesc->Bool
 |.struct fs=>fs.toList.all fun f=>(T.get f.type).isSome
 |.array _ e=>(T.get e).isSome
 |_=>false
def HC(P:Program)(T:Tab)(hr:Bool)(s:St)(o:Oper)(K:LV->Prop):Prop:=
 match o.op with
 |.move x |.assign x=>K (QM s.sl x)
 | .pick c a b=>match QM s.sl c with
   |.p .tt=>K (QM s.sl a)
   |.p .ff=>K (QM s.sl b)
   |.p (.bool t)=>Br t (K (QM s.sl a)) (K (QM s.sl b))
   |_=>False
 | .fieldAddr t x f=>match T.get t with
   | some {desc:=.struct fs,..}=>match fs[f]?with
     | some fld=>match T.get fld.type with
       | some {size:=.succ _,..}=>match QM s.sl x with
         |.p (.ip cs)=>K (.p (.ip (cs.drop fld.offset)))
         |.ptr k off=>K (.ptr k (off+fld.offset))
         |_=>False
       |_=>False
     |none=>False
   |_=>False
 | .load t x=>match QM s.sl x with
   |.p (.ip cs)=>ldW T t cs fun a=>K (.p a)
   | .ptr k off=>match hr with
     | true=>match getH s.H k with
       |some (.obj _ cs)=>ldL T t (cs.drop off) K
       |some (.own _ sz es)=>LdOwn es sz off fun cs=>ldW T t cs fun a=>K (.p a)
       | some (.ext (.mat _ _ _ rows hole))=>match T.get t with
         |some {desc:=.slice _,..}=>RowK rows hole off fun a n=>K (.ext k (.row a n))
         |_=>False
       |some (.ext _)=>False
       |none=>False
     |false=>False
   | .ext k (.rptr a off)=>match hr with
     | true=>match getH s.H k with
       |some (.ext (.mat _ _ sz rows hole))=>RLd rows hole a sz off fun cs=>ldW T t cs fun a=>K (.p a)
       |_=>False
     |false=>False
   |_=>ValO P hr s o K
 | .nilCheck x=>match QM s.sl x with
   |.p (.ip cs)=>K (.p (.ip cs))
   |.ptr k off=>K (.ptr k off)
   |.p (.fn f cs)=>K (.p (.fn f cs))
   |_=>ValO P hr s o K
 | .binOp op t x y _=>match QM s.sl x,QM s.sl y with
   | .p (.int k a),.p (.int k' b)=>match op with
     |.shl |.shr |.and |.or |.xor |.andNot=>ValO P hr s o K
     |_=>if k=k' then x1y op k a b K else False
   |.p (.str a),.p (.str b)=>x1f op a b K
   | x,y=>match op with
     | .eql=>match T.get t with
       | some {desc:=.pointer _,..}=>match PL x,PL y with
         |some true,some true=>K (.p .tt)
         |some true,some false=>K (.p .ff)
         |some false,some true=>K (.p .ff)
         |_,_=>ValO P hr s o K
       |_=>ValO P hr s o K
     | .neq=>match T.get t with
       | some {desc:=.pointer _,..}=>match PL x,PL y with
         |some true,some true=>K (.p .ff)
         |some true,some false=>K (.p .tt)
         |some false,some true=>K (.p .tt)
         |_,_=>ValO P hr s o K
       |_=>ValO P hr s o K
     |_=>ValO P hr s o K
 | .unOp op _ x=>match op,QM s.sl x with
   |.not,.p .tt=>K (.p .ff)
   |.not,.p .ff=>K (.p .tt)
   |.not,.p (.bool b)=>K (.p (.bool (!b)))
   |.neg,.p (.int k n)=>Wr k (0-n) fun n=>K (.p (.int k n))
   |_,_=>ValO P hr s o K
 | .convert src dst x=>match T.get src,T.get dst,QM s.sl x with
   |some _,some {desc:=.int k,..},.p (.int _ n)=>Wr k n fun n=>K (.p (.int k n))
   |some _,some {desc:=.string,..},.p (.str a)=>K (.p (.str a))
   |_,_,_=>ValO P hr s o K
 | .slice t x lo hi none=>match T.get t,Pz s.sl lo,Pz s.sl hi with
   | some {desc:=.string,..},some l,some h=>match QM s.sl x with
     |.p (.str a)=>SlK a.length l h fun l h=>K (.p (.str ((a.take h).drop l)))
     |_=>False
   | some {desc:=.slice e,..},some l,some h=>match T.get e,QM s.sl x with
     |some ie,.p (.sl es)=>(∀e∈es,e.cells.length=ie.size)/\SlK es.length l h fun l h=>K (.p (.sl ((es.take h).drop l)))
     | some ie,.hd k off len=>match getH s.H k with
       |some (.own _ sz _)=>sz=ie.size/\SlK len l h fun l h=>K (.hd k (off+l) (h-l))
       |_=>False
     |_,_=>ValO P hr s o K
   |_,_,_=>ValO P hr s o K
 | .field t x f=>match T.get t with
   | some {desc:=.struct fs,..}=>match fs[f]?with
     | some fld=>match QM s.sl x with
       |.p (.agg cs)=>ldW T fld.type (cs.drop fld.offset) fun a=>K (.p a)
       |.agg ls=>ldL T fld.type (ls.drop fld.offset) K
       |_=>False
     |none=>False
   |_=>False
 | .indexAddr t x i=>match T.get t,QM s.sl i with
   | some {desc:=.slice e,..},.p (.int _ n)=>match T.get e,QM s.sl x with
     |some ie,.p (.sl es)=>IdxK es ie.size n fun cs=>K (.p (.ip cs))
     | some ie,.hd k off len=>match getH s.H k with
       |some (.own _ sz _)=>sz=ie.size/\IdxL len n fun i=>K (.ptr k ((off+i)*sz))
       |some (.ext (.mat _ _ _ _ _))=>1=ie.size/\IdxL len n fun i=>K (.ptr k (off+i))
       |some (.obj _ _)=>off=0/\IdxL len n fun i=>K (.ptr k (i*ie.size))
       |_=>False
     | some ie,.ext k (.row a len)=>match getH s.H k with
       |some (.ext (.mat _ _ sz _ _))=>sz=ie.size/\IdxL len n fun i=>K (.ext k (.rptr a (i*sz)))
       |_=>False
     |_,_=>False
   | some {desc:=.array len e,..},.p (.int _ n)=>match T.get e,QM s.sl x with
     |some ie,.p (.ip cs)=>IdxL len n fun i=>K (.p (.ip (cs.drop (i*ie.size))))
     |some ie,.ptr k off=>IdxL len n fun i=>K (.ptr k (off+i*ie.size))
     |_,_=>False
   |_,_=>False
 | .index t x i=>match T.get t,QM s.sl i with
   | some {desc:=.string,..},.p (.int _ n)=>match QM s.sl x with
     |.p (.str a)=>ByteK a n fun c=>K (.p (.int .u8 c.toNat))
     |_=>False
   | some {desc:=.array len e,..},.p (.int _ n)=>match T.get e,QM s.sl x with
     |some ie,.p (.agg cs)=>IdxL len n fun i=>ldW T e (cs.drop (i*ie.size)) fun a=>K (.p a)
     |_,_=>False
   |_,_=>False
 | .extract x i=>match QM s.sl x with
   | .p (.tup vs)=>match vs[i]?with
     |some v=>K (.p v)
     |none=>False
   | .tup vs=>match vs[i]?with
     |some v=>K v
     |none=>False
   |_=>False
 | .build t parts=>match T.get t with
   | some i=>match AV.ofV i.zero with
     | .agg z=>V7 T i.desc=true/\match S9 (Yc T i.desc) (z.map .p) (parts.toList.map fun x=>(x.1,QM s.sl x.2))with
       |some cs=>K (mkAgg cs)
       |none=>False
     |_=>False
   |none=>False
 | .makeFunc (.func f) first caps=>match first.toList,P7 (caps.toList.map (QM s.sl))with
   |[],some l=>K (.p (.fn f l))
   |_,_=>ValO P hr s o K
 | .call {callee:=.builtin .len,args,argTypes}=>match args.toList.map (QM s.sl),argTypes.toList.map T.get with
   |[.p (.str a)],[some {desc:=.string,..}]=>a.length<=maxLen->K (.p (.int .i64 a.length))
   |[.p (.sl es)],[some {desc:=.slice _,..}]=>es.length<=maxLen->K (.p (.int .i64 es.length))
   |[.p .nils],[some {desc:=.slice _,..}]=>K (.p (.int .i64 0))
   | [.hd k _ len],[some {desc:=.slice _,..}]=>match getH s.H k with
     |some (.own _ _ _)=>len<=maxLen->K (.p (.int .i64 len))
     |some (.ext (.mat _ _ _ _ _))=>K (.p (.int .i64 len))
     |_=>False
   |[.ext _ (.row _ len)],[some {desc:=.slice _,..}]=>K (.p (.int .i64 len))
   |_,_=>ValO P hr s o K
 |_=>ValO P hr s o K
def Snd(P:Program)(hr:Bool)(σ:Mem)(β:Lab)(a:Act)(w:World)(o:Oper)(K:LV->Prop):Prop:=
 ∃v u,K v/\RepL σ β v u/\∀w',σ.lies w'->(hr=true->Old w w')->(execOp a.eval o).run P w'=.ok (.value u) w'
section
variable {P:Program}{T:Tab}{hr:Bool}{σ:Mem}{β:Lab}{a:Act}{w:World}{o:Oper}{K:LV->Prop}{s:St}
theorem Snd.mk{v:LV}{u:Value}(hK:K v)(hrep:RepL σ β v u)(h:∀w',σ.lies w'->(hr=true->Old w w')->(execOp a.eval o).run P w'=.ok (.value u) w'):Snd P hr σ β a w o K:=
 ⟨v,u,hK,hrep,h⟩
theorem SP{op:BinOp}{t u:TypeId}{x:Operand}(hop:o.op=.binOp op t x y u){k:IntKind}{m n:Int}(hx:a.eval x=.int k m)(hy:a.eval y=.int k n)(hne:op ≠ .shl/\op ≠ .shr/\op ≠ .and/\op ≠ .or/\op ≠ .xor/\op ≠ .andNot)(h:x1y op k m n K):Snd P hr σ β a w o K:=by
 have hg:∀w',(eqGuard op t x y (.int k m) (.int k n)).run P w'=.ok () w':=fun w'=>by
  unfold eqGuard;cases op<;>rfl
 have key:∀(r:Value)(hr':∀w',(binOp op t (.int k m) (.int k n)).run P w'=.ok r w')(v:LV)(_:K v)(_:RepL σ β v r),Snd P hr σ β a w o K:=fun r hr' v hK hrep=>
  .mk hK hrep fun w' _ _=>by
   simp only[execOp,hop,hx,hy,Sem.run_bind,hg,hr',Result.andThen_ok,Sem.run_pure]
 cases op with
 |add=>exact key _ (fun w'=>by simp[binOp,Op.intArith]) _ (Wr.get h) (.p (.int _ _))
 |sub=>exact key _ (fun w'=>by simp[binOp,Op.intArith]) _ (Wr.get h) (.p (.int _ _))
 |mul=>exact key _ (fun w'=>by simp[binOp,Op.intArith]) _ (Wr.get h) (.p (.int _ _))
 |quo=>exact key _ (fun w'=>by simp[binOp,Op.intDiv,h.1]) _ (Wr.get h.2) (.p (.int _ _))
 |rem=>exact key _ (fun w'=>by simp[binOp,Op.intDiv,h.1]) _ h.2 (.p (.int _ _))
 |eql=>exact key _ (fun w'=>by simp[binOp,Op.intCmp]) _ h (.p (.bool _))
 |neq=>exact key _ (fun w'=>by simp[binOp,Op.intCmp]) _ h (.p (.bool _))
 |lss=>exact key _ (fun w'=>by simp[binOp,Op.intCmp]) _ h (.p (.bool _))
 |leq=>exact key _ (fun w'=>by simp[binOp,Op.intCmp]) _ h (.p (.bool _))
 |gtr=>exact key _ (fun w'=>by simp[binOp,Op.intCmp]) _ h (.p (.bool _))
 |geq=>exact key _ (fun w'=>by simp[binOp,Op.intCmp]) _ h (.p (.bool _))
 |_=>simp at hne
theorem JF(s:List UInt8):(⟨s.toArray⟩:ByteArray).toList=s:=by
 rw[ByteArray.toList_eq]
theorem Qm(s:List UInt8):(⟨s.toArray⟩:ByteArray).size=s.length:=by
 simp[ByteArray.size]
theorem SM{op:BinOp}{t u:TypeId}{x:Operand}(hop:o.op=.binOp op t x y u){m n:List UInt8}(hx:a.eval x=.string ⟨m.toArray⟩)(hy:a.eval y=.string ⟨n.toArray⟩)(h:x1f op m n K):Snd P hr σ β a w o K:=by
 have hg:∀w',(eqGuard op t x y (.string ⟨m.toArray⟩) (.string ⟨n.toArray⟩)).run P w'=.ok () w':=fun w'=>by
  unfold eqGuard;cases op<;>rfl
 have key:∀(r:Value)(hr':∀w',(Op.stringOp op ⟨m.toArray⟩ ⟨n.toArray⟩).run P w'=.ok r w')(v:LV)(_:K v)(_:RepL σ β v r),Snd P hr σ β a w o K:=fun r hr' v hK hrep=>
  .mk hK hrep fun w' _ _=>by
   simp only[execOp,hop,hx,hy,Sem.run_bind,hg,Result.andThen_ok,Sem.run_pure];have:binOp op t (.string ⟨m.toArray⟩) (.string ⟨n.toArray⟩)=Op.stringOp op ⟨m.toArray⟩ ⟨n.toArray⟩:=by cases op<;>rfl
   rw[this,hr',Result.andThen_ok]
 cases op with
 | add=>
   refine key (.string ⟨(m++n).toArray⟩) (fun w'=>?_) _ h.2 (.p (.str _ (by simpa using h.1)));have h1:=h.1;simp only[maxLen]at h1;have hmax:IntKind.i64.max=9223372036854775807:=rfl;have hle:¬(((⟨m.toArray⟩:ByteArray).size+(⟨n.toArray⟩:ByteArray).size:Nat):Int)>IntKind.i64.max:=by
    rw[Qm,Qm,hmax];omega
   simp only[Op.stringOp,if_neg hle,Sem.run_pure];congr 2
 |eql=>exact key _ (fun w'=>by simp only[Op.stringOp,JF];rfl) _ h (.p (.bool _))
 |neq=>exact key _ (fun w'=>by simp only[Op.stringOp,JF];rfl) _ h (.p (.bool _))
 |lss=>exact key _ (fun w'=>by simp only[Op.stringOp,JF];rfl) _ h (.p (.bool _))
 |leq=>exact key _ (fun w'=>by simp only[Op.stringOp,JF];rfl) _ h (.p (.bool _))
 |gtr=>exact key _ (fun w'=>by simp only[Op.stringOp,JF];rfl) _ h (.p (.bool _))
 |geq=>exact key _ (fun w'=>by simp only[Op.stringOp,JF];rfl) _ h (.p (.bool _))
 |_=>exact h.elim
theorem Y3{v:LV}{u:Value}(h:RepL σ β v u){b:Bool}(hb:PL v=some b):(b=true->u=.pointer none)/\(b=false->∃x,u=.pointer (some x)):=by
 cases h with
 |p h=>cases h<;>simp[PL]at hb<;>subst hb<;>simp
 |ptr k off i hk=>simp[PL]at hb;subst hb;simp
 |_=>simp[PL]at hb
theorem SN{op:BinOp}{t u:TypeId}{x:Operand}(hop:o.op=.binOp op t x y u){e:TypeId}(ht:P.underlying t=some (.pointer e)){bx b_y:Bool}(hx:(bx=true->a.eval x=.pointer none)/\(bx=false->∃z,a.eval x=.pointer (some z)))(hy:(b_y=true->a.eval y=.pointer none)/\(b_y=false->∃z,a.eval y=.pointer (some z)))(hb:bx=true\/b_y=true)(hopp:op=.eql\/op=.neq){v:LV}(hK:K v)(hv:RepL σ β v (.bool (if op=.eql then(bx&&b_y)else !(bx&&b_y)))):Snd P hr σ β a w o K:=by
 have heq:∀w',(Op.equal t (a.eval x) (a.eval y)).run P w'=.ok (bx&&b_y) w':=fun w'=>by
  have e:∀p q,Op.equal t p q=Op.equalIn (9999+1) t p q:=fun p q=>rfl;rw[e,Op.equalIn,Sem.run_bind,run_underlying ht,Result.andThen_ok];cases bx<;>cases b_y<;>simp at hb
  ·obtain⟨z,hz⟩:=hx.2 rfl;rw[hz,hy.1 rfl];rfl
  ·obtain⟨z,hz⟩:=hy.2 rfl;rw[hz,hx.1 rfl];rfl
  ·rw[hx.1 rfl,hy.1 rfl];rfl
 have hpx:∃z,a.eval x=.pointer z:=by cases bx;exact let ⟨z,h⟩:=hx.2 rfl;⟨_,h⟩;exact⟨_,hx.1 rfl⟩
 have hpy:∃z,a.eval y=.pointer z:=by cases b_y;exact let ⟨z,h⟩:=hy.2 rfl;⟨_,h⟩;exact⟨_,hy.1 rfl⟩
 obtain⟨zx,hzx⟩:=hpx;obtain⟨zy,hzy⟩:=hpy;refine .mk hK hv fun w' _ _=>?_;have h1:=heq w';rw[hzx,hzy]at h1;rcases hopp with rfl|rfl
 ·simp only[execOp,hop,hzx,hzy,eqGuard,binOp,Sem.run_bind];simp[h1]
 ·simp only[execOp,hop,hzx,hzy,eqGuard,binOp,Sem.run_bind];simp[h1]
theorem TabOK.of{P:Program}{T:Tab}(hT:TabOK P T){t:Nat}{i:TyI}(h:T.get t=some i):P.underlying t=some i.desc:=(hT t i h).under
theorem JP(b off n:Nat):(⟨b,off,none⟩:Addr).add n=⟨b,off+n,none⟩:=by unfold Addr.add;split<;>simp_all
theorem Rep.ip_drop{σ:Mem}{cs:List AV}{b off:Nat}(h:Rep σ (.ip cs) (.pointer (some ⟨b,off,none⟩)))(n:Nat):Rep σ (.ip (cs.drop n)) (.pointer (some ⟨b,off+n,none⟩)):=by
 cases h with
 | ip _ _ _ cells u hb hc hr=>
   exact .ip _ b (off+n) cells (fun j=>u (n+j)) hb (fun j c hj=>by
    have:=hc (n+j) c (by simpa using hj)
    rwa[<-x6z]at this) (fun j c hj=>hr (n+j) c (by simpa using hj))
theorem Dr(hT:TabOK P T){t:TypeId}{x:Operand}{f:Nat}(hop:o.op=.fieldAddr t x f)(h:HC P T hr s o K)(hs:∀i,RepL σ β (getS s.sl i) (a.tmps.getD i undef)):Snd P hr σ β a w o K:=by
 simp only[HC,hop]at h;split at h<;>first|exact h.elim|skip
 rename_i fs _ _ _ ht;split at h<;>first|exact h.elim|skip
 rename_i fld hf;split at h<;>first|exact h.elim|skip
 rename_i n _ _ hft;have hfok:=hT _ _ hft;have hplace:∀(b off:Nat)(w':World),a.eval x=.pointer (some ⟨b,off,none⟩)->(execOp a.eval o).run P w'=.ok (.value (.pointer (some ⟨b,off+fld.offset,none⟩))) w':=by
  intro b off w' hx;simp[execOp,hop,Instr.fieldAt,run_underlying (hT.of ht),hf,Instr.sureAddr,hx,fieldPlace,hfok.sizeOf,JP]
 have hx:=QZ hs x;split at h<;>first|exact h.elim|skip
 ·rename_i cs he;rw[he]at hx;cases hx with
  | p hx=>
    have hx0:=hx;generalize hv:a.eval x=v at hx hx0;cases hx with
    |ip _ b off cells u hb hc hr'=>exact .mk h (.p (hx0.ip_drop _)) fun w' _ _=>hplace b off w' hv
 ·rename_i k off he;rw[he]at hx;generalize hv:a.eval x=v at hx;cases hx with
  |ptr _ _ i hk=>exact .mk h (.ptr k _ i hk) fun w' _ _=>hplace i.blk off w' hv
theorem Ik(l:List AV):P7 (l.map .p)=some l:=by
 induction l with
 |nil=>rfl
 |cons c r ih=>simp[P7,ih]
theorem Wx:∀(n:Nat)(cs:List AV)(Q:List AV->Prop)(Q':List LV->Prop),(∀l,Q l->Q' (l.map .p))->SE n cs Q->Hw n (cs.map .p) Q'
 |0,_,_,_,hQ,hq=>hQ [] hq
 |_+1,[],_,_,_,hq=>hq.elim
 |n+1,c::r,Q,Q',hQ,hq=>Wx n r (fun l=>Q (c::l)) (fun l=>Q' (.p c::l)) (fun l hl=>by simpa using hQ (c::l) hl) hq
theorem D5{t:Nat}{cs:List AV}{K:AV->Prop}(h:ldW T t cs K):ldL T t (cs.map .p) (fun l=>∃c,K c/\l=.p c):=by
 unfold ldW at h;unfold ldL;cases hti:T.get t with
 |none=>rw[hti]at h;exact h.elim
 | some i=>
   rw[hti]at h;cases hag:Q7 i.desc with
   | true=>
     simp only[hag]at h⊢;exact Wx _ _ _ _ (fun l hl=>⟨.agg l,hl,by simp[mkAgg,Ik]⟩) h
   | false=>
     simp only[hag]at h⊢;cases cs with
     |nil=>exact h.elim
     |cons c r=>exact⟨c,h,rfl⟩
theorem OT(hT:TabOK P T){t:TypeId}{x:Operand}(hop:o.op=.load t x)(h:HC P T hr s o K)(hs:∀i,RepL σ β (getS s.sl i) (a.tmps.getD i undef))(hH:HRel σ β s.H w):Snd P hr σ β a w o K:=by
 simp only[HC,hop]at h;have hrun:∀w' v,(Instr.loadAt t (a.eval x)).run P w'=.ok v w'->(execOp a.eval o).run P w'=.ok (.value v) w':=fun w' v hv=>by
  simp[execOp,hop,hv]
 have hx:=QZ hs x;split at h
 ·rename_i cs he;rw[he]at hx;cases hx with
  | p hx=>
    obtain⟨c,u,hK,hrep,hl⟩:=Aj hT h hx;exact .mk hK (.p hrep) fun w' hw' _=>hrun w' u (hl w' hw')
 ·rename_i k off he;rw[he]at hx;split at h<;>first|exact h.elim|skip
  split at h<;>first|exact h.elim|skip
  rotate_left 2
  ·rename_i e e2 sz rows hole hg;split at h<;>first|exact h.elim|skip
   rename_i el _ _ _ ht;obtain⟨m,row,ho,hrow,hnh,hK⟩:=h;subst ho;generalize hv:a.eval x=v at hx;cases hx with
   | ptr _ _ i' hk=>
     rcases hH.chunks k _ (QG hg)with h0|⟨i,vs,hi,h1,hh,h2,h3,h4,h5,h6,hc⟩
     ·rw[hk]at h0;cases h0.1
     ·rw[hk]at hi;cases hi;have hag:Q7 (TypeDesc.slice el)=false:=rfl;have hlt:=(x3r.1 hh).1;have hl:=fun w' (hw':Old w w')=>(VA (P:=P) hT ht ((hw' _ hlt).trans hh) (off:=off)).2 hag;rcases(hc off row hrow).2 hnh with⟨h7,rfl,h8⟩|⟨b,c,ws,h7,h8,_,_,h9,_⟩
      ·exact .mk hK (.ext k _ i' _ hk (.inl ⟨h7,rfl,rfl⟩)) fun w' _ hw'=>by
        exact hrun _ _ (by rw[hv];exact hl _ (hw' rfl) _ h8)
      ·exact .mk hK (.ext k _ i' _ hk (.inr ⟨b,c,h7,h9,rfl⟩)) fun w' _ hw'=>by
        exact hrun _ _ (by rw[hv];exact hl _ (hw' rfl) _ h8)
  ·rename_i e cs hg;obtain⟨i,vs,hi,hh,hn,hc⟩:=hH.chunks k _ (QG hg);generalize hv:a.eval x=v at hx;cases hx with
   | ptr _ _ i' hk=>
     rw[hk]at hi;cases hi;obtain⟨c,u,hK,hrep,hl⟩:=Qq (P:=P) hT h (off:=off) hh (fun j l hj=>hc (off+j) l (by simpa using hj));exact .mk hK hrep fun w' _ hw'=>by
      exact hrun _ u (by rw[hv];exact hl _ (hw' rfl _ (x3r.1 hh).1))
  ·rename_i e sz es hg;obtain⟨m,j,el,ho,he',hK⟩:=h;generalize hv:a.eval x=v at hx;cases hx with
   | ptr _ _ i' hk=>
     rcases hH.chunks k _ (QG hg)with h0|⟨i,vs,hi,hsz,hh,hn,h1,h2,hc⟩
     ·rw[hk]at h0;cases h0.1
     ·rw [hk]at hi;cases hi;have hrep:∀(n:Nat)(c:AV),(el.cells.drop j)[n]?=some c->∃u:Value,vs[off+n]?=some u/\Rep σ c u:=fun n c hn'=>by
       have:=(hc m el he').2 (j+n) c (by simpa using hn')
       rwa[ho,x6z]
      obtain⟨c,u,⟨a',hK',hca⟩,hrep',hl⟩:=Qq (P:=P) (K:=fun l=>∃a',K (.p a')/\l=.p a') hT (t:=t) (cs:=(el.cells.drop j).map .p) (D5 hK) (σ:=σ) (β:=β) hh (off:=off) (fun n l hl=>by
         rw[x2e]at hl;cases hq:(el.cells.drop j)[n]?with
         |none=>rw[hq]at hl;cases hl
         | some c=>
           rw[hq]at hl;cases hl;obtain⟨u,h3,h4⟩:=hrep n c hq;exact⟨u,h3,.p h4⟩)
      subst hca;exact .mk hK' hrep' fun w' _ hw'=>by
       exact hrun _ u (by rw[hv];exact hl _ (hw' rfl _ (x3r.1 hh).1))
 ·rename_i k ra off he;rw[he]at hx;split at h<;>first|exact h.elim|skip
  split at h<;>first|exact h.elim|skip
  rename_i e e2 sz rows hole hg;obtain⟨row,m,j,el,hrow,hnh,ho,he',hK⟩:=h;generalize hv:a.eval x=v at hx;cases hx with
  | ext _ _ i _ hk hd=>
    obtain⟨b,c,hb,rfl⟩:=hd;rcases hH.chunks k _ (QG hg)with h0|⟨i',vs,hi,h1,hh,h2,h3,h4,h5,h6,hc⟩
    ·rw[hk]at h0;cases h0.1
    ·rw [hk]at hi;cases hi;rcases(hc ra row hrow).2 hnh with⟨h7,_,_⟩|⟨b',c',ws,h7,h8,h9,h10,h11,h12,h13⟩
     ·rw[hb]at h7;cases h7
     ·rw [hb]at h7;cases h7;have hrep:∀(n:Nat)(c:AV),(el.cells.drop j)[n]?=some c->∃u:Value,ws[off+n]?=some u/\Rep σ c u:=fun n c hn'=>by
       have:=(h13 m el he').2 (j+n) c (by simpa using hn')
       rwa[ho,x6z]
      obtain⟨c,u,⟨a',hK',hca⟩,hrep',hl⟩:=Qq (P:=P) (K:=fun l=>∃a',K (.p a')/\l=.p a') hT (t:=t) (cs:=(el.cells.drop j).map .p) (D5 hK) (σ:=σ) (β:=β) h9 (off:=off) (fun n l hl=>by
         rw[x2e]at hl;cases hq:(el.cells.drop j)[n]?with
         |none=>rw[hq]at hl;cases hl
         | some c=>
           rw[hq]at hl;cases hl;obtain⟨u,h3,h4⟩:=hrep n c hq;exact⟨u,h3,.p h4⟩)
      subst hca;exact .mk hK' hrep' fun w' _ hw'=>by
       exact hrun _ u (by rw[hv];exact hl _ (hw' rfl _ (x3r.1 h9).1))
 ·exact h.ok σ β a w hs hH
theorem Mw{x:Operand}(hop:o.op=.nilCheck x)(h:HC P T hr s o K)(hs:∀i,RepL σ β (getS s.sl i) (a.tmps.getD i undef))(hH:HRel σ β s.H w):Snd P hr σ β a w o K:=by
 simp only[HC,hop]at h;have hx:=QZ hs x;split at h
 ·rename_i cs he;rw[he]at hx;generalize hv:a.eval x=v at hx;refine .mk h hx fun w' _ _=>?_;cases hx with
  | p hx=>cases hx with
    |ip _ b off cells u hb hc hr'=>simp[execOp,hop,hv]
 ·rename_i k off he;rw[he]at hx;generalize hv:a.eval x=v at hx;refine .mk h hx fun w' _ _=>?_;cases hx with
  |ptr _ _ i hk=>simp[execOp,hop,hv]
 ·rename_i f cs he;rw[he]at hx;generalize hv:a.eval x=v at hx;refine .mk h hx fun w' _ _=>?_;cases hx with
  | p hx=>cases hx with
    |fn _ _ vs u hn hc hr'=>simp[execOp,hop,hv]
 ·exact h.ok σ β a w hs hH
end
section
variable {P:Program}{T:Tab}{hr:Bool}{σ:Mem}{β:Lab}{a:Act}{w:World}{o:Oper}{K:LV->Prop}{s:St}
theorem RepL.int{k:IntKind}{n:Int}{v:Value}(h:RepL σ β (.p (.int k n)) v):v=.int k n:=by
 cases h with
 |p h=>cases h;rfl
theorem RepL.strV{l:List UInt8}{v:Value}(h:RepL σ β (.p (.str l)) v):v=.string ⟨l.toArray⟩/\l.length<=maxLen:=by
 cases h with
 | p h=>cases h with
   |str _ h=>exact⟨rfl,h⟩
theorem Ts{x:Operand}(hop:o.op=.move x\/o.op=.assign x)(h:K (QM s.sl x))(hs:∀i,RepL σ β (getS s.sl i) (a.tmps.getD i undef)):Snd P hr σ β a w o K:=
 .mk h (QZ hs x) fun w' _ _=>by rcases hop with hop|hop<;>simp[execOp,hop]
theorem OS{c x:Operand}(hop:o.op=.pick c x y)(h:HC P T hr s o K)(hs:∀i,RepL σ β (getS s.sl i) (a.tmps.getD i undef)):Snd P hr σ β a w o K:=by
 simp only[HC,hop]at h;have hc:=QZ hs c;have run:∀(b:Bool)(w':World),a.eval c=.bool b->(execOp a.eval o).run P w'=.ok (.value (if b then a.eval x else a.eval y)) w':=fun b w' hb=>by
  simp[execOp,hop,hb,asBool]
 split at h
 ·rename_i he;rw[he]at hc;cases hc with
  | p hc=>
    generalize hv:a.eval c=v at hc;cases hc;exact .mk h (QZ hs x) fun w' _ _=>run _ w' hv
 ·rename_i he;rw[he]at hc;cases hc with
  | p hc=>
    generalize hv:a.eval c=v at hc;cases hc;exact .mk h (QZ hs y) fun w' _ _=>run _ w' hv
 ·rename_i t he;rw[he]at hc;cases hc with
  | p hc=>
    generalize hv:a.eval c=v at hc;cases hc;cases t with
    |true=>exact .mk (h.yes rfl) (QZ hs x) fun w' _ _=>run _ w' hv
    |false=>exact .mk (h.no rfl) (QZ hs y) fun w' _ _=>run _ w' hv
 ·exact h.elim
theorem Ej(hT:TabOK P T){op:BinOp}{t u:TypeId}{x:Operand}(hop:o.op=.binOp op t x y u)(h:HC P T hr s o K)(hs:∀i,RepL σ β (getS s.sl i) (a.tmps.getD i undef))(hH:HRel σ β s.H w):Snd P hr σ β a w o K:=by
 simp only[HC,hop]at h;have hx:=QZ hs x;have hy:=QZ hs y;split at h
 ·rename_i k m k' n he he';rw[he]at hx;rw[he']at hy;have hx:=hx.int;have hy:=hy.int;cases op<;>simp only[]at h<;>first|exact h.ok σ β a w hs hH|skip
  all_goals
   split at h<;>first|exact h.elim|skip
   rename_i hk;subst hk;exact SP hop hx hy (by decide) h
 ·rename_i m n he he';rw[he]at hx;rw[he']at hy;exact SM hop hx.strV.1 hy.strV.1 h
 ·have done:∀(e:TypeId)(ht:P.underlying t=some (.pointer e))(bx b_y:Bool)(_:PL (QM s.sl x)=some bx)(_:PL (QM s.sl y)=some b_y)(_:bx=true\/b_y=true)
    (_:op=.eql\/op=.neq) (v:LV) (_:K v) (_:RepL σ β v (.bool (if op=.eql then(bx&&b_y)else !(bx&&b_y)))),Snd P hr σ β a w o K:=fun e ht bx b_y h1 h2 h3 h4 v hK hv=>
   SN hop ht (Y3 hx h1) (Y3 hy h2) h3 h4 hK hv
  split at h
  ·split at h
   ·rename_i e _ _ _ ht;have ht:=hT.of ht;split at h
    ·exact done e ht _ _ ‹_› ‹_› (.inl rfl) (.inl rfl) _ h (.p .tt)
    ·exact done e ht _ _ ‹_› ‹_› (.inl rfl) (.inl rfl) _ h (.p .ff)
    ·exact done e ht _ _ ‹_› ‹_› (.inr rfl) (.inl rfl) _ h (.p .ff)
    ·exact h.ok σ β a w hs hH
   ·exact h.ok σ β a w hs hH
  ·split at h
   ·rename_i e _ _ _ ht;have ht:=hT.of ht;split at h
    ·exact done e ht _ _ ‹_› ‹_› (.inl rfl) (.inr rfl) _ h (.p .ff)
    ·exact done e ht _ _ ‹_› ‹_› (.inl rfl) (.inr rfl) _ h (.p .tt)
    ·exact done e ht _ _ ‹_› ‹_› (.inr rfl) (.inr rfl) _ h (.p .tt)
    ·exact h.ok σ β a w hs hH
   ·exact h.ok σ β a w hs hH
  ·exact h.ok σ β a w hs hH
theorem OC{op:UnOp}{t:TypeId}{x:Operand}(hop:o.op=.unOp op t x)(h:HC P T hr s o K)(hs:∀i,RepL σ β (getS s.sl i) (a.tmps.getD i undef))(hH:HRel σ β s.H w):Snd P hr σ β a w o K:=by
 simp only[HC,hop]at h;have hx:=QZ hs x;split at h
 ·rename_i he;rw[he]at hx;generalize hv:a.eval x=v at hx;cases hx with
  |p hx=>cases hx;exact .mk h (.p .ff) fun w' _ _=>by simp[execOp,hop,hv,Op.unary]
 ·rename_i he;rw[he]at hx;generalize hv:a.eval x=v at hx;cases hx with
  |p hx=>cases hx;exact .mk h (.p .tt) fun w' _ _=>by simp[execOp,hop,hv,Op.unary]
 ·rename_i b he;rw[he]at hx;generalize hv:a.eval x=v at hx;cases hx with
  |p hx=>cases hx;exact .mk h (.p (.bool _)) fun w' _ _=>by simp[execOp,hop,hv,Op.unary]
 ·rename_i k n he;rw[he]at hx;have hv:=hx.int;exact .mk (Wr.get h) (.p (.int _ _)) fun w' _ _=>by simp[execOp,hop,hv,Op.unary,Op.intArith]
 ·exact h.ok σ β a w hs hH
theorem Ru(hT:TabOK P T){src dst:TypeId}{x:Operand}(hop:o.op=.convert src dst x)(h:HC P T hr s o K)(hs:∀i,RepL σ β (getS s.sl i) (a.tmps.getD i undef))(hH:HRel σ β s.H w):Snd P hr σ β a w o K:=by
 simp only[HC,hop]at h;have hx:=QZ hs x;split at h
 ·rename_i i k _ _ _ k' n h1 h2 he;rw[he]at hx;have hv:=hx.int;exact .mk (Wr.get h) (.p (.int _ _)) fun w' _ _=>by
   simp[execOp,hop,hv,convert,run_underlying (hT.of h1),run_underlying (hT.of h2),Conv.intToInt]
 ·rename_i i _ _ _ l h1 h2 he;rw[he]at hx;obtain⟨hv,hl⟩:=hx.strV;exact .mk h (.p (.str _ hl)) fun w' _ _=>by
   simp[execOp,hop,hv,convert,run_underlying (hT.of h1),run_underlying (hT.of h2)]
 ·exact h.ok σ β a w hs hH
theorem Tv{hT:TabOK P T}{t:TypeId}{i:TyI}(hi:T.get t=some i)(vs:Array Value)(off:Nat)(w':World):
  (Q7 i.desc=true->(part t vs off).run P w'=.ok (.agg (vs.extract off (off+i.size))) w')/\
  (Q7 i.desc=false->∀v,vs[off]?=some v->(part t vs off).run P w'=.ok v w'):=by
 have hok:=hT t i hi;exact⟨fun ha=>by simp[part,hok.isAgg,ha,hok.sizeOf],fun ha v hv=>by simp[part,hok.isAgg,ha,hv]⟩
theorem Z4(hT:TabOK P T){t:Nat}{ls:List LV}{off:Nat}{K:LV->Prop}(h:ldL T t (ls.drop off) K){vs:Array Value}(hc:∀(j:Nat)(l:LV),ls[j]?=some l->∃u:Value,vs[j]?=some u/\RepL σ β l u):
  ∃c u,K c/\RepL σ β c u/\∀w',(part t vs off).run P w'=.ok u w':=by
 unfold ldL at h;split at h
 ·exact h.elim
 rename_i i hi;have hfun:∀(j:Nat),∃u:Value,∀(l:LV),ls[j]?=some l->vs[j]?=some u/\RepL σ β l u:=fun j=>by
  cases hj:ls[j]?with
  |none=>exact⟨undef,fun l h=>by cases h⟩
  |some l=>obtain⟨u,h1,h2⟩:=hc j l hj;exact⟨u,fun l' h=>by cases h;exact⟨h1,h2⟩⟩
 obtain⟨u,hu⟩ : ∃u:Nat->Value,∀(j:Nat)(l:LV),ls[j]?=some l->vs[j]?=some (u j)/\RepL σ β l (u j):=⟨fun j=>(hfun j).choose,fun j=>(hfun j).choose_spec⟩;clear hfun;split at h
 ·rename_i ha;obtain⟨hK,hlen⟩:=MK h;have hfit:i.size=0\/off+i.size<=vs.size:=by
   by_cases h0:i.size=0
   ·exact .inl h0
   ·refine .inr ?_;simp only[x5f]at hlen;have:=(hu (off+(i.size-1)) (ls[off+(i.size-1)]'(by omega)) (by simp)).1;have:=(x3r.1 this).1;omega
  refine⟨_,_,hK,RepL.mkAgg (vs:=vs.extract off (off+i.size)) (fun j=>u (off+j)) (by simp only[Array.size_extract,x3m,x5f];simp only[x5f]at hlen;omega) (fun j c hj=>?_) (fun j c hj=>?_),fun w'=>(Tv (hT:=hT) hi vs off w').1 ha⟩
  ·rw[x4g]at hj;split at hj
   ·rename_i hj1;have:=(hu (off+j) c (by simpa using hj)).1;rw[Array.getElem?_extract,if_pos (by omega)];exact this
   ·cases hj
  ·rw[x4g]at hj;split at hj
   ·exact(hu (off+j) c (by simpa using hj)).2
   ·cases hj
 ·rename_i ha;split at h
  ·rename_i c r hcr;have h0:ls[off]?=some c:=by
    have:(ls.drop off)[0]?=some c:=by rw[hcr];rfl
    simpa using this
   exact⟨c,u off,h,(hu off c h0).2,fun w'=>(Tv (hT:=hT) hi vs off w').2 ha _ (hu off c h0).1⟩
  ·exact h.elim
theorem q7a{cs:List AV}{v:Value}(h:RepL σ β (.p (.agg cs)) v):∃vs,v=.agg vs/\vs.size=cs.length/\∀(j:Nat)(l:LV),(cs.map LV.p)[j]?=some l->∃u:Value,vs[j]?=some u/\RepL σ β l u:=by
 cases h with
 | p h=>cases h with
   | agg _ vs u hn hc hr=>
     refine⟨vs,rfl,hn,fun j l hj=>?_⟩;rw[x2e]at hj;cases hq:cs[j]?with
     |none=>rw[hq]at hj;cases hj
     |some c=>rw[hq]at hj;cases hj;exact⟨u j,hc j c hq,.p (hr j c hq)⟩
theorem x1z{ls:List LV}{v:Value}(h:RepL σ β (.agg ls) v):∃vs,v=.agg vs/\vs.size=ls.length/\∀(j:Nat)(l:LV),ls[j]?=some l->∃u:Value,vs[j]?=some u/\RepL σ β l u:=by
 cases h with
 |agg _ vs u hn hc hr=>exact⟨vs,rfl,hn,fun j l hj=>⟨u j,hc j l hj,hr j l hj⟩⟩
theorem Eg(hT:TabOK P T){t:TypeId}{x:Operand}{f:Nat}(hop:o.op=.field t x f)(h:HC P T hr s o K)(hs:∀i,RepL σ β (getS s.sl i) (a.tmps.getD i undef)):Snd P hr σ β a w o K:=by
 simp only[HC,hop]at h;split at h<;>first|exact h.elim|skip
 rename_i fs _ _ _ ht;split at h<;>first|exact h.elim|skip
 rename_i fld hf;have hx:=QZ hs x;split at h<;>first|exact h.elim|skip
 ·rename_i cs he;rw[he]at hx;obtain⟨vs,hv,_,hc⟩:=q7a hx;have h':=D5 h;rw[List.map_drop]at h';obtain⟨c,u,⟨c',hK,rfl⟩,hrep,hrun⟩:=Z4 hT h' hc;exact .mk hK hrep fun w' _ _=>by simp[execOp,hop,Instr.field,run_underlying (hT.of ht),hf,hv,asAgg,hrun]
 ·rename_i ls he;rw[he]at hx;obtain⟨vs,hv,_,hc⟩:=x1z hx;obtain⟨c,u,hK,hrep,hrun⟩:=Z4 hT h hc;exact .mk hK hrep fun w' _ _=>by simp[execOp,hop,Instr.field,run_underlying (hT.of ht),hf,hv,asAgg,hrun]
theorem Ry{x:Operand}{i:Nat}(hop:o.op=.extract x i)(h:HC P T hr s o K)(hs:∀i,RepL σ β (getS s.sl i) (a.tmps.getD i undef)):Snd P hr σ β a w o K:=by
 simp only[HC,hop]at h;have hx:=QZ hs x;split at h<;>first|exact h.elim|skip
 ·rename_i vs he;rw[he]at hx;split at h<;>first|exact h.elim|skip
  rename_i v hv;generalize hy:a.eval x=y at hx;cases hx with
  | p hx=>cases hx with
    |tup _ us u hn hc hr'=>exact .mk h (.p (hr' i v hv)) fun w' _ _=>by simp[execOp,hop,hy,Instr.extract,hc i v hv]
 ·rename_i vs he;rw[he]at hx;split at h<;>first|exact h.elim|skip
  rename_i v hv;generalize hy:a.eval x=y at hx;cases hx with
  |tup _ us u hn hc hr'=>exact .mk h (hr' i v hv) fun w' _ _=>by simp[execOp,hop,hy,Instr.extract,hc i v hv]
end
theorem x4j:type_of%@IdxL.mk:=@IdxL.mk
theorem x5z:type_of%@LdOwn.mk:=@LdOwn.mk
theorem x9s:type_of%@RepL.hd:=@RepL.hd
end Go.Ab
