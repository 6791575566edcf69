/- Values of persistent memory as pure data ('AV'), values that may lie in memory of the call's own ('LV'), what they stand for in a world, and that this outlives growth of the persistent memory. Conditions: none; parametric in the program. -/
import Derived.Control
import Derived.Calls
import Derived.Orders
import Derived.KernelRfl
import Derived.Laws.AppendOwn
import Derived.Laws.MakeOwn
import Derived.Great.BuildSlice
import Derived.Laws.Entries
import Derived.Laws.Strings
set_option linter.all false
set_option maxRecDepth 100000
set_option maxHeartbeats 16000000
open Array (push)
open List (map_cons map_nil mem_cons sum_cons)
open Nat (ble ble_eq)
namespace Go.Ab
def x3a:type_of%@List.length_map:=@List.length_map
def x3e:type_of%@List.getElem?_eq_getElem:=@List.getElem?_eq_getElem
def x3i:type_of%@List.getD_eq_getElem?_getD:=@List.getD_eq_getElem?_getD
def x3o:type_of%@List.length_append:=@List.length_append
def x4q:type_of%@List.getElem?_map:=@List.getElem?_map
def x4x:type_of%@List.mem_cons_of_mem:=@List.mem_cons_of_mem
def x4z:type_of%@List.mem_cons_self:=@List.mem_cons_self
def x4w:type_of%@List.mem_singleton:=@List.mem_singleton
def x4v:type_of%@mem_cons:=@mem_cons
def x4u:type_of%@List.getElem?_eq_some_iff:=@List.getElem?_eq_some_iff
def x4y:type_of%@List.mem_map:=@List.mem_map
def x4j:type_of%@Nat.zero_le:=@Nat.zero_le
def x4k:type_of%@List.take_succ_eq_append_getElem:=@List.take_succ_eq_append_getElem
def x4g:type_of%@List.mem_append:=@List.mem_append
def x4h:type_of%@List.getElem_mem:=@List.getElem_mem
def x4f:type_of%@Nat.lt_or_ge:=@Nat.lt_or_ge
def x4d:type_of%@List.map_append:=@List.map_append
def x4b:type_of%@List.take_of_length_le:=@List.take_of_length_le
def x4p:type_of%@List.mem_of_getElem?:=@List.mem_of_getElem?
def x4n:type_of%@Bool.and_eq_true:=@Bool.and_eq_true
def x4m:type_of%@Nat.le_refl:=@Nat.le_refl
def x4l:type_of%@List.drop_eq_nil_of_le:=@List.drop_eq_nil_of_le
def x4r:type_of%@List.append_assoc:=@List.append_assoc
def x4t:type_of%@Array.getElem?_eq_some_iff:=@Array.getElem?_eq_some_iff
def x4s:type_of%@cond_true:=@cond_true
def x4a:type_of%@List.mem_flatMap:=@List.mem_flatMap
def x4e:type_of%@And.intro:=@And.intro
def x4i:type_of%@List.length_singleton:=@List.length_singleton
def x4o:type_of%@map_cons:=@map_cons
def x5q:type_of%@cond_false:=@cond_false
def x5z:type_of%@List.length_take:=@List.length_take
def x5v:type_of%@List.getElem?_replicate:=@List.getElem?_replicate
def x5u:type_of%@Int.toNat_natCast:=@Int.toNat_natCast
def x5y:type_of%@Nat.le_trans:=@Nat.le_trans
def x5j:type_of%@List.drop_eq_getElem_cons:=@List.drop_eq_getElem_cons
def x5k:type_of%@decide_eq_true_eq:=@decide_eq_true_eq
def x5g:type_of%@List.length_cons:=@List.length_cons
def x5h:type_of%@List.mem_filter:=@List.mem_filter
def x5f:type_of%@List.getElem?_set_self:=@List.getElem?_set_self
def x5d:type_of%@List.map_set:=@List.map_set
def x5b:type_of%@Option.getD_some:=@Option.getD_some
def x5p:type_of%@List.getElem?_set_ne:=@List.getElem?_set_ne
def x5n:type_of%@decide_eq_true:=@decide_eq_true
def x5m:type_of%@List.append_nil:=@List.append_nil
def x5l:type_of%@Nat.mul_le_mul_right:=@Nat.mul_le_mul_right
def x5r:type_of%@decide_eq_false:=@decide_eq_false
def x5t:type_of%@List.getElem?_append_right:=@List.getElem?_append_right
def x5s:type_of%@List.getElem?_take:=@List.getElem?_take
def x5c:type_of%@List.mem_append_left:=@List.mem_append_left
def x5a:type_of%@List.mem_range:=@List.mem_range
def x5e:type_of%@List.length_replicate:=@List.length_replicate
def x5i:type_of%@List.getElem?_append_left:=@List.getElem?_append_left
def x5o:type_of%@List.getElem?_drop:=@List.getElem?_drop
def x6q:type_of%@List.nodup_cons:=@List.nodup_cons
def x6x:type_of%@List.length_set:=@List.length_set
def x6w:type_of%@List.all_eq_true:=@List.all_eq_true
def x6v:type_of%@List.eq_of_mem_replicate:=@List.eq_of_mem_replicate
def x6u:type_of%@List.mem_iff_getElem:=@List.mem_iff_getElem
def x6y:type_of%@List.filter_append:=@List.filter_append
def x6j:type_of%@List.getElem?_eq_none:=@List.getElem?_eq_none
def x6k:type_of%@List.eq_nil_of_length_eq_zero:=@List.eq_nil_of_length_eq_zero
def x6g:type_of%@Array.length_toList:=@Array.length_toList
def x6h:type_of%@congrArg:=@congrArg
def x6f:type_of%@List.mem_append_right:=@List.mem_append_right
def x6d:type_of%@List.flatMap_cons:=@List.flatMap_cons
def x6p:type_of%@List.length_filter_le:=@List.length_filter_le
def x6m:type_of%@List.flatMap_append:=@List.flatMap_append
def x6l:type_of%@List.length_range:=@List.length_range
def x6r:type_of%@Nat.add_mul:=@Nat.add_mul
def x6t:type_of%@List.pairwise_cons:=@List.pairwise_cons
def x6s:type_of%@List.any_eq_true:=@List.any_eq_true
def x6c:type_of%@List.length_drop:=@List.length_drop
def x6a:type_of%@List.mergeSort_perm:=@List.mergeSort_perm
def x6i:type_of%@Nat.zero_add:=@Nat.zero_add
def x6o:type_of%@Array.getElem?_eq_getElem:=@Array.getElem?_eq_getElem
def x7q:type_of%@List.mem_or_eq_of_mem_set:=@List.mem_or_eq_of_mem_set
def x7x:type_of%@List.mem_iff_getElem?:=@List.mem_iff_getElem?
def x7z:type_of%@List.getElem?_range:=@List.getElem?_range
def x7w:type_of%@Bool.not_eq_true':=@Bool.not_eq_true'
def x7v:type_of%@List.foldl_cons:=@List.foldl_cons
def x7u:type_of%@List.nodup_append:=@List.nodup_append
def x7y:type_of%@List.filter_cons_of_pos:=@List.filter_cons_of_pos
def x7j:type_of%@decide_eq_false_iff_not:=@decide_eq_false_iff_not
def x7k:type_of%@List.set_append_right:=@List.set_append_right
def x7g:type_of%@List.mem_map_of_mem:=@List.mem_map_of_mem
def x7h:type_of%@List.map_replicate:=@List.map_replicate
def x7f:type_of%@Array.getElem?_toList:=@Array.getElem?_toList
def x7d:type_of%@Ne.symm:=@Ne.symm
def x7b:type_of%@List.filter_cons_of_neg:=@List.filter_cons_of_neg
def x7p:type_of%@Classical.byContradiction:=@Classical.byContradiction
def x7n:type_of%@Array.getElem?_setIfInBounds_ne:=@Array.getElem?_setIfInBounds_ne
def x7m:type_of%@List.set_cons_zero:=@List.set_cons_zero
def x7l:type_of%@Array.getElem?_modify:=@Array.getElem?_modify
def x7r:type_of%@Bool.or_eq_true:=@Bool.or_eq_true
def x7t:type_of%@Option.map_some:=@Option.map_some
def x7s:type_of%@List.foldl_append:=@List.foldl_append
def x7c:type_of%@Option.some.injEq:=@Option.some.injEq
def x7a:type_of%@of_decide_eq_true:=@of_decide_eq_true
def x7e:type_of%@List.getElem?_append:=@List.getElem?_append
def x7i:type_of%@List.pairwise_iff_getElem:=@List.pairwise_iff_getElem
def x7o:type_of%@Nat.lt_of_lt_of_le:=@Nat.lt_of_lt_of_le
def x8q:type_of%@decide_eq_true_iff:=@decide_eq_true_iff
def x8x:type_of%@List.range_succ:=@List.range_succ
def x8z:type_of%@Option.some.inj:=@Option.some.inj
def x8w:type_of%@Nat.sub_self:=@Nat.sub_self
def x8v:type_of%@List.replicate_succ:=@List.replicate_succ
def x8u:type_of%@beq_iff_eq:=@beq_iff_eq
def x8y:type_of%@List.size_toArray:=@List.size_toArray
def x8j:type_of%@Nat.add_assoc:=@Nat.add_assoc
def x8k:type_of%@beq_self_eq_true:=@beq_self_eq_true
def x8g:type_of%@List.getElem?_eq_none_iff:=@List.getElem?_eq_none_iff
def x8h:type_of%@List.mem_of_find?_eq_some:=@List.mem_of_find?_eq_some
def x8f:type_of%@Int.toNat_of_nonneg:=@Int.toNat_of_nonneg
def x8d:type_of%@Nat.add_zero:=@Nat.add_zero
def x8b:type_of%@List.findIdx?_eq_some_iff_getElem:=@List.findIdx?_eq_some_iff_getElem
def x8p:type_of%@Bool.or_eq_false_iff:=@Bool.or_eq_false_iff
def x8n:type_of%@List.mem_of_mem_take:=@List.mem_of_mem_take
def x8m:type_of%@List.not_mem_nil:=@List.not_mem_nil
def x8r:type_of%@Array.getElem?_append_left:=@Array.getElem?_append_left
def x8t:type_of%@List.map_map:=@List.map_map
def x8s:type_of%@Bool.eq_iff_iff:=@Bool.eq_iff_iff
def x8c:type_of%@List.length_nil:=@List.length_nil
def x8e:type_of%@Bool.false_eq_true:=@Bool.false_eq_true
def x8i:type_of%@List.getElem_map:=@List.getElem_map
def x9z:type_of%@Array.getElem?_push:=@Array.getElem?_push
def x9w:type_of%@Array.getElem?_eq_none:=@Array.getElem?_eq_none
def x9v:type_of%@List.filter_cons:=@List.filter_cons
def x9u:type_of%@List.findIdx?_cons:=@List.findIdx?_cons
def x9y:type_of%@List.findIdx?_eq_none_iff:=@List.findIdx?_eq_none_iff
def x9j:type_of%@List.find?_some:=@List.find?_some
def x9k:type_of%@List.nil_append:=@List.nil_append
def x9g:type_of%@if_false:=@if_false
def x9h:type_of%@List.length_pos_of_mem:=@List.length_pos_of_mem
def x9f:type_of%@Nat.mul_one:=@Nat.mul_one
def x9d:type_of%@Option.map_eq_some_iff:=@Option.map_eq_some_iff
def x9b:type_of%@List.find?_eq_none:=@List.find?_eq_none
def x9n:type_of%@List.getElem?_toArray:=@List.getElem?_toArray
def x9m:type_of%@Nat.le_of_ble_eq_true:=@Nat.le_of_ble_eq_true
def x9l:type_of%@sum_cons:=@sum_cons
def x9t:type_of%@exists_congr:=@exists_congr
def x9s:type_of%@List.map_congr_left:=@List.map_congr_left
def x9c:type_of%@beq_eq_false_iff_ne:=@beq_eq_false_iff_ne
def x9a:type_of%@List.getElem?_cons_zero:=@List.getElem?_cons_zero
def x9e:type_of%@List.pairwise_mergeSort:=@List.pairwise_mergeSort
def x9i:type_of%@Int.add_assoc:=@Int.add_assoc
def x9o:type_of%@List.find?_cons:=@List.find?_cons
def z0q:type_of%@List.getElem_range:=@List.getElem_range
def z0x:type_of%@List.mem_replicate:=@List.mem_replicate
def z0z:type_of%@ble_eq:=@ble_eq
def z0w:type_of%@Bool.eq_false_iff:=@Bool.eq_false_iff
def z0v:type_of%@List.Sublist.refl:=@List.Sublist.refl
def z0u:type_of%@List.ext_getElem?:=@List.ext_getElem?
def z0y:type_of%@List.filter_congr:=@List.filter_congr
def z0j:type_of%@List.getElem?_set:=@List.getElem?_set
def z0k:type_of%@Array.getElem?_append:=@Array.getElem?_append
def z0g:type_of%@Iff.rfl:=@Iff.rfl
def z0h:type_of%@List.countP_le_length:=@List.countP_le_length
def z0f:type_of%@List.drop_drop:=@List.drop_drop
def z0d:type_of%@map_nil:=@map_nil
def z0b:type_of%@List.take_append_drop:=@List.take_append_drop
def z0p:type_of%@Nat.add_comm:=@Nat.add_comm
def z0n:type_of%@Nat.mul_le_mul:=@Nat.mul_le_mul
def z0m:type_of%@Bool.not_eq_true:=@Bool.not_eq_true
def z0l:type_of%@List.ext_getElem:=@List.ext_getElem
def z0r:type_of%@List.reverse_reverse:=@List.reverse_reverse
def z0t:type_of%@List.take_length:=@List.take_length
def z0s:type_of%@Nat.div_lt_of_lt_mul:=@Nat.div_lt_of_lt_mul
def z0c:type_of%@Array.toList_filter:=@Array.toList_filter
def z0a:type_of%@List.length_pos_iff:=@List.length_pos_iff
def z0e:type_of%@List.length_zipWith:=@List.length_zipWith
def z0i:type_of%@List.map_eq_nil_iff:=@List.map_eq_nil_iff
def z0o:type_of%@Bool.toNat_true:=@Bool.toNat_true
def z1x:type_of%@Nat.mul_comm:=@Nat.mul_comm
def z1z:type_of%@getElem!_pos:=@getElem!_pos
def z1w:type_of%@List.nodup_nil:=@List.nodup_nil
def z1u:type_of%@Nat.one_mul:=@Nat.one_mul
variable {y:Operand}
inductive AV where
 |any|und
 |tt|ff
 |bool (b:Bool)
 |int (k:IntKind) (n:Int)
 |str (s:List UInt8)
 |nilp|nilf|nils
 |ip (cs:List AV)
 |sl (es:List AV)
 |agg (cs:List AV)
 |tup (vs:List AV)
 |fn (f:FuncId) (caps:List AV)
 |raw (v:Value)
def AV.cells:AV->List AV
 |.agg cs=>cs
 |a=>[a]
def AV.ofS:Value->AV
 |.bool true=>.tt
 |.bool false=>.ff
 |.int k n=>.int k n
 |.string s=>bif ble s.size maxLen then .str s.data.toList else .raw (.string s)
 |.pointer none=>.nilp
 |.slice none 0 0=>.nils
 |.nilFunc=>.nilf
 |v=>.raw v
def AV.ofV:Value->AV
 |.agg cs=>.agg (cs.toList.map AV.ofS)
 |.tuple vs=>if vs.isEmpty then .und else .raw (.tuple vs)
 |v=>AV.ofS v
abbrev Mem:=Nat->Option (Array Value)
def Mem.le(σ τ:Mem):Prop:=∀b c,σ b=some c->τ b=some c
theorem Mem.le_refl(σ:Mem):σ.le σ:=fun _ _ h=>h
theorem Mem.le_trans{σ τ υ:Mem}(h:σ.le τ)(k:τ.le υ):σ.le υ:=fun b c e=>k b c (h b c e)
inductive Rep(σ:Mem):AV->Value->Prop
 |any (v:Value):Rep σ .any v
 |und:Rep σ .und undef
 |tt:Rep σ .tt (.bool true)
 |ff:Rep σ .ff (.bool false)
 |bool (b:Bool):Rep σ (.bool b) (.bool b)
 |int (k:IntKind) (n:Int):Rep σ (.int k n) (.int k n)
 |str (s:List UInt8) (h:s.length<=maxLen):Rep σ (.str s) (.string ⟨s.toArray⟩)
 |nilp:Rep σ .nilp (.pointer none)
 |nilf:Rep σ .nilf .nilFunc
 |nils:Rep σ .nils (.slice none 0 0)
 |raw (v:Value):Rep σ (.raw v) v
 |ip (cs:List AV) (b off:Nat) (cells:Array Value) (u:Nat->Value) (hb:σ b=some cells)
    (hc:∀(j:Nat)(c:AV),cs[j]?=some c->cells[off+j]?=some (u j)) (hr:∀(j:Nat)(c:AV),cs[j]?=some c->Rep σ c (u j)):
    Rep σ (.ip cs) (.pointer (some ⟨b,off,none⟩))
 |nilsl:Rep σ (.sl []) (.slice none 0 0)
 |slz (b:Addr):Rep σ (.sl []) (.slice (some b) 0 0)
 |sl (es:List AV) (b off cap sz:Nat) (cells:Array Value) (u:Nat->Nat->Value) (hb:σ b=some cells)
    (hcap:es.length<=cap) (hmax:cap<=maxLen) (hsz:∀(i:Nat)(e:AV),es[i]?=some e->e.cells.length=sz)
    (hc:∀(i:Nat)(e:AV)(j:Nat)(c:AV),es[i]?=some e->e.cells[j]?=some c->cells[off+i*sz+j]?=some (u i j))
    (hr:∀(i:Nat)(e:AV)(j:Nat)(c:AV),es[i]?=some e->e.cells[j]?=some c->Rep σ c (u i j)):
    Rep σ (.sl es) (.slice (some ⟨b,off,none⟩) es.length cap)
 |agg (cs:List AV) (vs:Array Value) (u:Nat->Value) (hn:vs.size=cs.length)
    (hc:∀(j:Nat)(c:AV),cs[j]?=some c->vs[j]?=some (u j)) (hr:∀(j:Nat)(c:AV),cs[j]?=some c->Rep σ c (u j)):
    Rep σ (.agg cs) (.agg vs)
 |tup (cs:List AV) (vs:Array Value) (u:Nat->Value) (hn:vs.size=cs.length)
    (hc:∀(j:Nat)(c:AV),cs[j]?=some c->vs[j]?=some (u j)) (hr:∀(j:Nat)(c:AV),cs[j]?=some c->Rep σ c (u j)):
    Rep σ (.tup cs) (.tuple vs)
 |fn (f:FuncId) (cs:List AV) (vs:Array Value) (u:Nat->Value) (hn:vs.size=cs.length)
    (hc:∀(j:Nat)(c:AV),cs[j]?=some c->vs[j]?=some (u j)) (hr:∀(j:Nat)(c:AV),cs[j]?=some c->Rep σ c (u j)):
    Rep σ (.fn f cs) (.func (.func f) #[] vs)
theorem Rep.mono{σ τ:Mem}(h:σ.le τ){a:AV}{v:Value}(hr:Rep σ a v):Rep τ a v:=by
 induction hr with
 |any v=>exact .any v
 |und=>exact .und
 |tt=>exact .tt
 |ff=>exact .ff
 |bool b=>exact .bool b
 |int k n=>exact .int k n
 |str s q=>exact .str s q
 |nilp=>exact .nilp
 |nilf=>exact .nilf
 |nils=>exact .nils
 |raw v=>exact .raw v
 |ip cs b off cells u m i _ j=>exact .ip cs b off cells u (h _ _ m) i j
 |nilsl=>exact .nilsl
 |slz b=>exact .slz b
 |sl es b off cap sz cells u m r t x i _ j=>exact .sl es b off cap sz cells u (h _ _ m) r t x i j
 |agg cs vs u l i _ j=>exact .agg cs vs u l i j
 |tup cs vs u l i _ j=>exact .tup cs vs u l i j
 |fn f cs vs u l i _ j=>exact .fn f cs vs u l i j
theorem Rep.ofS(σ:Mem)(v:Value):Rep σ (AV.ofS v) v:=by
 unfold AV.ofS;split<;>first|exact .tt|exact .ff|exact .int _ _|exact .nilp|exact .nils|exact .nilf|exact .raw _|skip
 rename_i s;by_cases h:s.size<=maxLen
 .rw [show ble s.size maxLen=true from Nat.ble_eq_true_of_le h,x4s];exact .str s.data.toList h
 .rw [show ble s.size maxLen=false from by
   cases i:ble s.size maxLen with
   |false=>rfl
   |true=>exact absurd (x9m i) h,x5q]
  exact .raw _
theorem Rep.ofV(σ:Mem)(v:Value):Rep σ (AV.ofV v) v:=by
 unfold AV.ofV;split
 .rename_i cs;refine .agg _ cs (fun j=>cs[j]?.getD undef) (by simp) (fun j c l=>?_) (fun j c l=>?_)
  .have i:j<cs.size:=by simpa using(x4u.1 l).1
   simp[i]
  .have i:j<cs.size:=by simpa using(x4u.1 l).1
   simp[i]at l⊢;subst l;exact Rep.ofS σ _
 .rename_i vs;split
  .rename_i m;have:vs=#[]:=by simpa using m
   subst this;exact .und
  .exact .raw _
 .exact Rep.ofS σ v
def AV.one:AV->Bool
 |.tt |.ff |.bool _ |.int _ _ |.str _ |.nilp |.nilf |.nils |.ip _ |.sl _ |.fn _ _ |.raw (.pointer _)=>true
 |_=>false
theorem Rep.oneCell{σ:Mem}{a:AV}{v:Value}(h:Rep σ a v)(i:a.one=true):v.oneCell'=true:=by
 cases h with
 |raw v=>cases v<;>first|rfl|simp[AV.one]at i
 |_=>first|rfl|simp[AV.one]at i
structure BInfo where
 blk:Nat
 cap:Nat
 sz:Nat
 subs:List (Option (Nat×Nat))
 ok:cap<=maxLen
def BInfo.has(i:BInfo)(b:Nat):Prop:=i.blk=b\/∃c,some (b,c)∈i.subs
theorem BInfo.has_blk(i:BInfo):i.has i.blk:=.inl rfl
def MX{b c s i:Nat}{h:c<=maxLen}:(BInfo.mk b c s [] h).has i↔b=i:=by simp[BInfo.has]
inductive XV where
 |row (a n:Nat)
 |rptr (a off:Nat)
 |map
 |iter
def XV.rep:XV->BInfo->Value->Prop
 |.row a n,i,v=>(i.subs[a]?=some none/\n=0/\v=.slice none 0 0)\/∃b c,i.subs[a]?=some (some (b,c))/\n<=c/\v=.slice (some ⟨b,0,none⟩) n c
 |.rptr a off,i,v=>∃b c,i.subs[a]?=some (some (b,c))/\v=.pointer (some ⟨b,off,none⟩)
 |.map,i,v=>v=.map (some i.blk)
 |.iter,i,v=>v=.pointer (some ⟨i.blk,0,none⟩)
def S2{d:XV}{i:BInfo}{v:Value}(h:d.rep i v):v.oneCell'=true:=by
 cases d with
 |row a n=>rcases h with⟨_,_,rfl⟩|⟨_,_,_,_,rfl⟩<;>rfl
 |rptr a off=>obtain⟨_,_,_,rfl⟩:=h;rfl
 |map=>cases h;rfl
 |iter=>cases h;rfl
inductive LV where
 |p (a:AV)
 |ptr (k off:Nat)
 |hd (k off len:Nat)
 |agg (vs:List LV)
 |tup (vs:List LV)
 |ext (k:Nat) (d:XV)
abbrev LV.j (n:Int):LV:=.p (.int .i64 n)
abbrev Lab:=Nat->Option BInfo
inductive RepL(σ:Mem)(β:Lab):LV->Value->Prop
 |p {a:AV} {v:Value} (h:Rep σ a v):RepL σ β (.p a) v
 |ptr (k off:Nat) (i:BInfo) (h:β k=some i):RepL σ β (.ptr k off) (.pointer (some ⟨i.blk,off,none⟩))
 |hdn (k:Nat) (h:β k=none):RepL σ β (.hd k 0 0) (.slice none 0 0)
 |hd (k off len:Nat) (i:BInfo) (o:Nat) (h:β k=some i) (hl:off+len<=i.cap) (ho:o=off*i.sz\/(i.cap=off/\0<off)):
    RepL σ β (.hd k off len) (.slice (some ⟨i.blk,o,none⟩) len (i.cap-off))
 |agg (ls:List LV) (vs:Array Value) (u:Nat->Value) (hn:vs.size=ls.length)
    (hc:∀(j:Nat)(l:LV),ls[j]?=some l->vs[j]?=some (u j)) (hr:∀(j:Nat)(l:LV),ls[j]?=some l->RepL σ β l (u j)):
    RepL σ β (.agg ls) (.agg vs)
 |tup (ls:List LV) (vs:Array Value) (u:Nat->Value) (hn:vs.size=ls.length)
    (hc:∀(j:Nat)(l:LV),ls[j]?=some l->vs[j]?=some (u j)) (hr:∀(j:Nat)(l:LV),ls[j]?=some l->RepL σ β l (u j)):
    RepL σ β (.tup ls) (.tuple vs)
 |ext (k:Nat) (d:XV) (i:BInfo) (v:Value) (h:β k=some i) (hd:d.rep i v):RepL σ β (.ext k d) v
theorem RepL.mono{σ τ:Mem}{β:Lab}(h:σ.le τ){l:LV}{v:Value}(hr:RepL σ β l v):RepL τ β l v:=by
 induction hr with
 |p hr=>exact .p (hr.mono h)
 |ptr k off i j=>exact .ptr k off i j
 |hdn k j=>exact .hdn k j
 |hd k off len i o j t x=>exact .hd k off len i o j t x
 |agg ls vs u q m _ r=>exact .agg ls vs u q m r
 |tup ls vs u q m _ r=>exact .tup ls vs u q m r
 |ext k d i v h hd=>exact .ext k d i v h hd
def LV.free(k:Nat):LV->Bool
 |.p _=>true
 |.ptr j _=> !(j==k)
 |.hd j _ _=> !(j==k)
 |.agg vs=>freeAll k vs
 |.tup vs=>freeAll k vs
 |.ext j _=> !(j==k)
where freeAll (k:Nat):List LV->Bool
 |[]=>true
 |v::r=>LV.free k v&&freeAll k r
theorem XH{k:Nat}:∀{vs:List LV},LV.free.freeAll k vs=true->∀(j:Nat)(l:LV),vs[j]?=some l->l.free k=true
 |[],_,_,_,h=>by simp at h
 | v::r,h,0,l,hj=>by
   simp only[LV.free.freeAll,x4n]at h;simp at hj;subst hj;exact h.1
 | v::r,h,j+1,l,hj=>by
   simp only[LV.free.freeAll,x4n]at h;exact XH h.2 j l (by simpa using hj)
def Lab.set(β:Lab)(k:Nat)(i:Option BInfo):Lab:=fun j=>if j=k then i else β j
theorem RepL.set{σ:Mem}{β:Lab}{l:LV}{v:Value}(hr:RepL σ β l v){k:Nat}(i:Option BInfo)(m:l.free k=true):RepL σ (β.set k i) l v:=by
 induction hr with
 |p hr=>exact .p hr
 |ptr j off i' q=>exact .ptr j off i' (by simp[LV.free]at m;simp[Lab.set,m,q])
 |hdn j q=>exact .hdn j (by simp[LV.free]at m;simp[Lab.set,m,q])
 |hd j off len i' o q r b=>exact .hd j off len i' o (by simp[LV.free]at m;simp[Lab.set,m,q]) r b
 |agg ls vs u x t _ z=>exact .agg ls vs u x t (fun j l r=>z j l r (XH (by simpa[LV.free]using m) j l r))
 |tup ls vs u x t _ z=>exact .tup ls vs u x t (fun j l r=>z j l r (XH (by simpa[LV.free]using m) j l r))
 |ext j d i' v q hd=>exact .ext j d i' v (by simp[LV.free]at m;simp[Lab.set,m,q]) hd
inductive XC where
 |mat (e e2:TypeId) (sz:Nat) (rows:List (List AV)) (hole:List Nat)
 |map (l:List (Value×AV))
 |cells (e:TypeId) (l:List (Nat×AV))
 |mapr (e sz:Nat) (l:List (List UInt8×List AV)) (hole:Option (List UInt8))
 |iter (l:List (List UInt8×AV)) (cur:Option (List UInt8×AV))
def MS(es:Array MapEntry)(h:Nat):Prop:=(es.toList.map (·.born)).Nodup/\∀x∈es.toList,x.born<h
def XC.holds:XC->Mem->Option BInfo->World->Prop
 |.mat e e2 sz rows hole,σ,o,w=>(o=none/\rows=[])\/∃i vs,o=some i/\i.sz=1/\w.heap[i.blk]?=some (.cells vs e (0,0))/\vs.size=i.cap/\rows.length<=i.cap/\i.cap<=maxLen/\
    i.subs.length=rows.length/\(∀(a b c:Nat),i.subs[a]?=some (some (b,c))->i.blk≠b/\∀a' c',i.subs[a']?=some (some (b,c'))->a'=a)/\
    ∀ (a:Nat) (row:List AV),rows[a]?=some row->(a∈hole->i.subs[a]?=some none)/\(a∉hole->
     (i.subs[a]?=some none/\row=[]/\vs[a]?=some (.slice none 0 0))\/∃b c ws,i.subs[a]?=some (some (b,c))/\vs[a]?=some (.slice (some ⟨b,0,none⟩) row.length c)/\w.heap[b]?=some (.cells ws e2 (0,0))/\
       ws.size=c*sz/\row.length<=c/\c<=maxLen/\∀(m:Nat)(x:AV),row[m]?=some x->x.cells.length=sz/\∀(j:Nat)(c':AV),x.cells[j]?=some c'->∃u:Value,ws[m*sz+j]?=some u/\Rep σ c' u)
 |.map l,σ,o,w=>∃i es clock,o=some i/\w.heap[i.blk]?=some (.map es clock)/\MS es clock/\es.size=l.length/\∀(m:Nat)(x:Value×AV),l[m]?=some x->∃e:MapEntry,es[m]?=some e/\e.key=x.1/\Rep σ x.2 e.val
 |.cells e l,σ,o,w=>(l.map (·.1)).Nodup/\∀x∈l,∃i u,o=some i/\i.has x.1/\w.heap[x.1]?=some (.cells #[u] e (0,0))/\Rep σ x.2 u
 |.mapr e sz l hole,σ,o,w=>∃i es clock,o=some i/\w.heap[i.blk]?=some (.map es clock)/\MS es clock/\es.size=l.length/\i.subs.length=l.length/\(l.map (·.1)).Nodup/\
    (∀(a b c:Nat),i.subs[a]?=some (some (b,c))->i.blk≠b/\∀a' c',i.subs[a']?=some (some (b,c'))->a'=a)/\
    ∀ (a:Nat) (x:List UInt8×List AV),l[a]?=some x->∃e':MapEntry,es[a]?=some e'/\e'.key=.string ⟨x.1.toArray⟩/\(hole=some x.1->i.subs[a]?=some none)/\(hole≠some x.1->
     ∃b c ws,i.subs[a]?=some (some (b,c))/\e'.val=.slice (some ⟨b,0,none⟩) x.2.length c/\w.heap[b]?=some (.cells ws e (0,0))/\
      ws.size=c*sz/\x.2.length<=c/\c<=maxLen/\∀(m:Nat)(y:AV),x.2[m]?=some y->y.cells.length=sz/\∀(j:Nat)(c':AV),y.cells[j]?=some c'->∃u:Value,ws[m*sz+j]?=some u/\Rep σ c' u)
 |.iter l cur,σ,o,w=>∃i m es clock since seen,o=some i/\i.subs=[some (m,0)]/\w.heap[i.blk]?=some (.mapIter (some m) since seen clock)/\w.heap[m]?=some (.map es clock)/\
    (es.toList.map (·.born)).Nodup/\(∀x∈es.toList,x.born<since)/\since<=clock/\(es.filter fun x=> !seen.contains x.born).size=l.length/\
    (∀(j:Nat)(x:List UInt8×AV),l[j]?=some x->∃e:MapEntry,(es.filter fun x=> !seen.contains x.born)[j]?=some e/\e.key=.string ⟨x.1.toArray⟩/\Rep σ x.2 e.val)/\
    ∀x,cur=some x->∃e∈es.toList,∃seen0,seen=push seen0 e.born/\e.key=.string ⟨x.1.toArray⟩/\Rep σ x.2 e.val
theorem XC.holds.mono{σ τ:Mem}{o:Option BInfo}{w w':World}{d:XC}(h:d.holds σ o w)(H:σ.le τ)(z:∀i,o=some i->∀b,i.has b->w'.heap[b]?=w.heap[b]?):d.holds τ o w':=by
 cases d with
 | mat e e2 sz rows Q=>
   rcases h with h|⟨i,vs,r,v,D,A,B,C,M,N,G⟩
   .exact .inl h
   .refine .inr ⟨i,vs,r,v,(z i r _ i.has_blk).trans D,A,B,C,M,N,fun a row hr=>⟨(G a row hr).1,fun hn=>?_⟩⟩;rcases(G a row hr).2 hn with h|⟨b,c,ws,F,O,Z,U,V,Y,L⟩
    .exact .inl h
    .refine .inr ⟨b,c,ws,F,O,(z i r b (.inr ⟨c,x4p F⟩)).trans Z,U,V,Y,fun m x t=>⟨(L m x t).1,fun j c' hj=>?_⟩⟩;obtain⟨u,f,g⟩:=(L m x t).2 j c' hj;exact⟨u,f,g.mono H⟩
 | map l=>
   obtain⟨i,es,q,r,D,R,v,G⟩:=h;refine⟨i,es,q,r,(z i r _ i.has_blk).trans D,R,v,fun m x t=>?_⟩;obtain⟨e,A,B,C⟩:=G m x t;exact⟨e,A,B,C.mono H⟩
 | cells e l=>
   refine⟨h.1,fun x t=>?_⟩;obtain⟨i,u,r,hb,D,hr⟩:=h.2 x t;exact⟨i,u,r,hb,(z i r _ hb).trans D,hr.mono H⟩
 | mapr e sz l Q=>
   obtain⟨i,es,q,r,D,R,v,A,B,C,G⟩:=h;refine⟨i,es,q,r,(z i r _ i.has_blk).trans D,R,v,A,B,C,fun a x t=>?_⟩;obtain⟨e',M,N,F,O⟩:=G a x t;refine⟨e',M,N,F,fun hn=>?_⟩;obtain⟨b,c,ws,g1,I,J,g4,g5,g6,g7⟩:=O hn;refine⟨b,c,ws,g1,I,(z i r b (.inr ⟨c,x4p g1⟩)).trans J,g4,g5,g6,fun m y hy=>⟨(g7 m y hy).1,fun j c' hj=>?_⟩⟩;obtain⟨u,f,g⟩:=(g7 m y hy).2 j c' hj;exact⟨u,f,g.mono H⟩
 | iter l cur=>
   obtain⟨i,m,es,q,E,seen,r,v,A,B,C,M,N,F,O,Z⟩:=h;refine⟨i,m,es,q,E,seen,r,v,(z i r _ i.has_blk).trans A,(z i r m (.inr ⟨0,by rw[v];exact x4z⟩)).trans B,C,M,N,F,fun j x t=>?_,fun x t=>?_⟩
   .obtain ⟨e,g1,I,J⟩:=O j x t;exact⟨e,g1,I,J.mono H⟩
   .obtain ⟨e,g0,s0,g1,I,J⟩:=Z x t;exact⟨e,g0,s0,g1,I,J.mono H⟩
inductive Chunk where
 |obj (e:TypeId) (cs:List LV)
 |own (e:TypeId) (sz:Nat) (es:List AV)
 |ext (d:XC)
def Chunk.free(k:Nat):Chunk->Bool
 |.obj _ cs=>LV.free.freeAll k cs
 |.own _ _ _=>true
 |.ext _=>true
def Chunk.holds(σ:Mem)(β:Lab)(w:World)(k:Nat):Chunk->Prop
 |.obj e cs=>∃i vs,β k=some i/\w.heap[i.blk]?=some (.cells vs e (0,0))/\vs.size=cs.length/\
    ∀(j:Nat)(l:LV),cs[j]?=some l->∃u:Value,vs[j]?=some u/\RepL σ β l u
 |.own e sz es=>(β k=none/\es=[])\/∃i vs,β k=some i/\i.sz=sz/\w.heap[i.blk]?=some (.cells vs e (0,0))/\
    vs.size=i.cap*sz/\es.length<=i.cap/\i.cap<=maxLen/\
    ∀(m:Nat)(x:AV),es[m]?=some x->x.cells.length=sz/\∀(j:Nat)(c:AV),x.cells[j]?=some c->∃u:Value,vs[m*sz+j]?=some u/\Rep σ c u
 |.ext d=>d.holds σ (β k) w
theorem Chunk.holds.mono{σ τ:Mem}{β:Lab}{w w':World}{k:Nat}{c:Chunk}(h:c.holds σ β w k)(f:σ.le τ)(A:∀i,β k=some i->∀b,i.has b->w'.heap[b]?=w.heap[b]?):c.holds τ β w' k:=by
 cases c with
 | obj e cs=>
   obtain⟨i,vs,q,z,g,r⟩:=h;exact⟨i,vs,q,(A i q _ i.has_blk).trans z,g,fun j l F=>let ⟨u,t,v⟩:=r j l F;⟨u,t,v.mono f⟩⟩
 | own e sz es=>
   rcases h with h|⟨i,vs,q,G,z,g,t,C,r⟩
   .exact .inl h
   .refine .inr ⟨i,vs,q,G,(A i q _ i.has_blk).trans z,g,t,C,fun m x B=>⟨(r m x B).1,fun j c E=>?_⟩⟩;obtain⟨u,v,D⟩:=(r m x B).2 j c E;exact⟨u,v,D.mono f⟩
 |ext d=>exact XC.holds.mono (d:=d) h f A
theorem Chunk.holds.set{σ:Mem}{β:Lab}{w:World}{k:Nat}{c:Chunk}(h:c.holds σ β w k){q:Nat}(i':Option BInfo)(m:k≠q)(z:c.free q=true):
  c.holds σ (β.set q i') w k:=by
 cases c with
 | obj e cs=>
   obtain⟨i,vs,t,b,f,x⟩:=h;exact⟨i,vs,by simp[Lab.set,m,t],b,f,fun j l v=>let ⟨u,h1,h3⟩:=x j l v;⟨u,h1,h3.set i' (XH z j l v)⟩⟩
 | own e sz es=>
   rcases h with h|⟨i,vs,t,r⟩
   .exact .inl ⟨by simp[Lab.set,m,h.1],h.2⟩
   .exact .inr ⟨i,vs,by simp[Lab.set,m,t],r⟩
 | ext d=>
   have:(β.set q i') k=β k:=by simp[Lab.set,m]
   show d.holds σ ((β.set q i') k) w;rw[this];exact h
def LV.one:LV->Bool
 |.p a=>a.one
 |.ptr _ _ |.hd _ _ _ |.ext _ _=>true
 |_=>false
theorem RepL.oneCell{σ:Mem}{β:Lab}{l:LV}{v:Value}(h:RepL σ β l v)(j:l.one=true):v.oneCell'=true:=by
 cases h with
 |p h=>exact h.oneCell j
 |agg=>simp[LV.one]at j
 |tup=>simp[LV.one]at j
 |ext k d i v h m=>exact S2 (d:=d) m
 |_=>rfl
abbrev Heap:=List (Nat×Chunk)
structure St where
 sl:List (Nat×LV)
 H:Heap
def getS:List (Nat×LV)->Nat->LV
 |[],_=>.p .any
 |(j,v)::r,i=>bif j==i then v else getS r i
def Mem.lies(σ:Mem)(w:World):Prop:=∀b c,σ b=some c->∃e fr,w.heap[b]?=some (.cells c e fr)
structure HRel(σ:Mem)(β:Lab)(H:Heap)(w:World):Prop where
 mem:σ.lies w
 chunks:∀k c,(k,c)∈H->c.holds σ β w k
 nodup:(H.map (·.1)).Nodup
 apart:∀k∈H.map (·.1),∀i,β k=some i->∀b,i.has b->σ b=none/\b<w.heap.size
 inj:∀k∈H.map (·.1),∀k'∈H.map (·.1),∀i i',β k=some i->β k'=some i'->∀b,i.has b->i'.has b->k=k'
structure Rel(N:Nat)(σ:Mem)(β:Lab)(s:St)(a:Act)(w:World):Prop where
 size:a.tmps.size=N
 defers:a.defers=[]
 E:∀i,RepL σ β (getS s.sl i) (a.tmps.getD i undef)
 heap:HRel σ β s.H w
def owns(β:Lab)(H:Heap)(b:Nat):Prop:=∃k∈H.map (·.1),∃i,β k=some i/\i.has b
structure Frm(B:Nat->Prop)(w w':World):Prop where
 os:w'.os=w.os
 tape:w'.tape=w.tape
 output:w'.output=w.output
 drawn:w.drawn<=w'.drawn
 size:w.heap.size<=w'.heap.size
 block:∀k,k<w.heap.size->¬B k->w'.heap[k]?=w.heap[k]?
def Old(w w':World):Prop:=∀b,b<w.heap.size->w'.heap[b]?=w.heap[b]?
theorem Old.refl(w:World):Old w w:=fun _ _=>rfl
theorem Old.trans{w w' i:World}(h:Old w w')(k:Old w' i):Old w i:=fun b m=>by
 have j:=h b m;have l:b<w'.heap.size:=by
  rw[x6o m]at j;exact(x4t.1 j).1
 exact(k b l).trans j
theorem Frm.refl(B:Nat->Prop)(w:World):Frm B w w:=⟨rfl,rfl,rfl,x4m _,x4m _,fun _ _ _=>rfl⟩
structure Later(σ:Mem)(β:Lab)(H:Heap)(w:World)(σ':Mem)(β':Lab)(H':Heap)(w':World):Prop where
 le:σ.le σ'
 G:Frm (owns β H) w w'
 mem:∀b,σ b=none->σ' b≠none->owns β H b\/w.heap.size<=b
 own:∀b,owns β' H' b->owns β H b\/w.heap.size<=b
 pin:∀k,1000<=k->k<2000->β' k=β k
theorem Later.refl(σ:Mem)(β:Lab)(H:Heap)(w:World):Later σ β H w σ β H w:=
 ⟨Mem.le_refl σ,Frm.refl _ _,fun _ h i=>absurd h i,fun _ h=>.inl h,fun _ _ _=>rfl⟩
theorem Later.trans{σ σ' σ'':Mem}{β β' β'':Lab}{H H' m:Heap}{w w' q:World}(h:Later σ β H w σ' β' H' w')(k:Later σ' β' H' w' σ'' β'' m q):
  Later σ β H w σ'' β'' m q:=by
 refine⟨Mem.le_trans h.le k.le,⟨k.G.os.trans h.G.os,k.G.tape.trans h.G.tape,k.G.output.trans h.G.output,x5y h.G.drawn k.G.drawn,x5y h.G.size k.G.size,fun b l u=>?_⟩,fun b r t=>?_,fun b l=>?_,fun j r t=>(k.pin j r t).trans (h.pin j r t)⟩
 .refine (k.G.block b (x7o l h.G.size) fun v=>?_).trans (h.G.block b l u);rcases h.own b v with i|i
  .exact u i
  .omega
 .cases l:σ' b with
  | none=>
    rcases k.mem b l t with i|i
    .exact h.own b i
    .exact .inr (x5y h.G.size i)
  |some c=>exact h.mem b r (by simp[l])
 .rcases k.own b l with i|i
  .exact h.own b i
  .exact .inr (x5y h.G.size i)
structure TyI where
 desc:TypeDesc
 size:Nat
 bytes:Nat
 zero:Value
abbrev Tab:=List (Nat×TyI)
def Tab.get:Tab->Nat->Option TyI
 |[],_=>none
 |(j,i)::r,t=>bif j==t then some i else Tab.get r t
def LD:TypeDesc->Bool
 |.struct _ |.array _ _=>true
 |_=>false
structure TyOK(P:Program)(t:Nat)(i:TyI):Prop where
 under:P.underlying t=some i.desc
 info:(P.info? t).map (fun f=>(f.size,f.bytes,f.zero))=some (i.size,i.bytes,some i.zero)
def TabOK(P:Program)(T:Tab):Prop:=∀t i,T.get t=some i->TyOK P t i
theorem TabOK.nil(P:Program):TabOK P []:=fun _ _ h=>by simp[Tab.get]at h
theorem TabOK.cons{P:Program}{T:Tab}{t:Nat}{i:TyI}(q:P.underlying t=some i.desc)(r:(P.info? t).map (fun f=>(f.size,f.bytes,f.zero))=some (i.size,i.bytes,some i.zero))(h:TabOK P T):TabOK P ((t,i)::T):=by
 intro m i' j;simp only[Tab.get]at j;by_cases l:t=m
 .subst l;simp at j;subst j;exact⟨q,r⟩
 .have:(t==m)=false:=by simp[l]
  simp only[this,x5q]at j;exact h _ _ j
theorem TyOK.getInfo{P:Program}{t:Nat}{i:TyI}(h:TyOK P t i):∃f,P.info? t=some f/\f.size=i.size/\f.bytes=i.bytes/\f.zero=some i.zero:=by
 have:=h.info;cases j:P.info? t with
 |none=>simp[j]at this
 |some f=>simp[j]at this;exact⟨f,rfl,this.1,this.2.1,this.2.2⟩
theorem TyOK.sizeOf{P:Program}{t:Nat}{i:TyI}(h:TyOK P t i)(w:World):(sizeOf t).run P w=.ok i.size w:=by
 obtain⟨f,l,j,_⟩:=h.getInfo;simp[Go.sizeOf,typeInfo,l,j]
theorem TyOK.zeroValue{P:Program}{t:Nat}{i:TyI}(h:TyOK P t i)(w:World):(zeroValue t).run P w=.ok i.zero w:=by
 obtain⟨f,l,_,_,j⟩:=h.getInfo;simp[Go.zeroValue,typeInfo,l,j]
theorem TyOK.runUnder{P:Program}{t:Nat}{i:TyI}(h:TyOK P t i)(w:World):(underlying t).run P w=.ok i.desc w:=run_underlying h.under w
theorem TyOK.isAgg{P:Program}{t:Nat}{i:TyI}(h:TyOK P t i)(w:World):(isAgg t).run P w=.ok (LD i.desc) w:=by
 simp only[Go.isAgg,Sem.run_bind,h.runUnder,Result.andThen_ok];cases i.desc<;>rfl
def QD(sl:List (Nat×LV)):Operand->LV
 |.tmp t=>getS sl t
 |.const v=>.p (AV.ofV v)
 |.global g=>.p (.raw (.pointer (some ⟨g,0,none⟩)))
 |.func f=>.p (.fn f [])
def QX{σ:Mem}{β:Lab}{sl:List (Nat×LV)}{a:Act}(h:∀i,RepL σ β (getS sl i) (a.tmps.getD i undef))(x:Operand):RepL σ β (QD sl x) (a.eval x):=by
 cases x with
 |tmp t=>exact h t
 |const v=>exact .p (.ofV σ v)
 |global g=>exact .p (.raw _)
 |func f=>exact .p (.fn f [] #[] (fun _=>undef) rfl (by simp) (by simp))
structure Br(t:Bool)(A B:Prop):Prop where
 yes:t=true->A
 no:t=false->B
theorem Br.tt{A B:Prop}(h:A):Br true A B:=⟨fun _=>h,fun h=>(by cases h)⟩
theorem Br.ff{A B:Prop}(h:B):Br false A B:=⟨fun h=>(by cases h),fun _=>h⟩
def InK(k:IntKind)(n:Int):Prop:=k.min<=n/\n<=k.max
def q5o{k:IntKind}{n:Int}(h:InK k n):k.wrap n=n:=by
 obtain⟨i,j⟩:=h;cases k<;>simp[IntKind.min,IntKind.max,IntKind.signed,IntKind.bits]at i j<;>simp[IntKind.wrap,IntKind.signed,IntKind.bits]<;>omega
inductive Wr(k:IntKind)(n:Int)(K:Int->Prop):Prop
 |fit (h:InK k n) (hk:K n)
 |wrap (hk:K (k.wrap n))
theorem Wr.get{k:IntKind}{n:Int}{K:Int->Prop}(h:Wr k n K):K (k.wrap n):=by
 cases h with
 |fit h i=>rwa[q5o h]
 |wrap i=>exact i
theorem Wr.i64{n:Int}{K:Int->Prop}(j : -9223372036854775808<=n)(l:n<=9223372036854775807)(i:K n):Wr .i64 n K:=
 .fit ⟨by simp[IntKind.min,IntKind.signed,IntKind.bits];omega,by simp[IntKind.max,IntKind.signed,IntKind.bits];omega⟩ i
inductive IdxK(es:List AV)(sz:Nat)(n:Int)(K:List AV->Prop):Prop
 |mk (k:Nat) (e:AV) (hk:n=k) (he:es[k]?=some e) (hs:e.cells.length=sz) (hK:K e.cells)
inductive IdxL(len:Nat)(n:Int)(K:Nat->Prop):Prop
 |mk (i:Nat) (hn:n=i) (hi:i<len) (hK:K i)
inductive LdOwn(es:List AV)(sz off:Nat)(K:List AV->Prop):Prop
 |mk (m j:Nat) (e:AV) (ho:off=m*sz+j) (he:es[m]?=some e) (hK:K (e.cells.drop j))
inductive RowK(rows:List (List AV))(hole:List Nat)(off:Nat)(K:Nat->Nat->Prop):Prop
 |mk (a:Nat) (row:List AV) (ho:off=a) (hr:rows[a]?=some row) (hh:a∉hole) (hK:K a row.length)
inductive RLd(rows:List (List AV))(hole:List Nat)(a sz off:Nat)(K:List AV->Prop):Prop
 |mk (row:List AV) (m j:Nat) (e:AV) (hr:rows[a]?=some row) (hh:a∉hole) (ho:off=m*sz+j) (he:row[m]?=some e) (hK:K (e.cells.drop j))
inductive SlK(len:Nat)(lo hi:Option Int)(K:Nat->Nat->Prop):Prop
 |mk (l h:Nat) (hl:lo.getD 0=l) (hh:hi.getD len=h) (h1:l<=h) (h2:h<=len) (hK:K l h)
inductive ByteK(s:List UInt8)(n:Int)(K:UInt8->Prop):Prop
 |mk (k:Nat) (c:UInt8) (hk:n=k) (hc:s[k]?=some c) (hK:K c)
def SI:Nat->List AV->(List AV->Prop)->Prop
 |0,_,K=>K []
 |n+1,c::r,K=>SI n r fun l=>K (c::l)
 |_+1,[],_=>False
theorem Gm:∀{n:Nat}{cs:List AV}{K:List AV->Prop},SI n cs K->K (cs.take n)/\n<=cs.length
 |0,_,_,h=>⟨by simpa[SI]using h,x4j _⟩
 | n+1,c::r,K,h=>by
   have:=Gm (n:=n) (cs:=r) h;exact⟨by simpa using this.1,by simpa using this.2⟩
 |n+1,[],K,h=>by simp[SI]at h
def Gn:Nat->List LV->(List LV->Prop)->Prop
 |0,_,K=>K []
 |n+1,c::r,K=>Gn n r fun l=>K (c::l)
 |_+1,[],_=>False
theorem NT:∀{n:Nat}{cs:List LV}{K:List LV->Prop},Gn n cs K->K (cs.take n)/\n<=cs.length
 |0,_,_,h=>⟨by simpa[Gn]using h,x4j _⟩
 | n+1,c::r,K,h=>by
   have:=NT (n:=n) (cs:=r) h;exact⟨by simpa using this.1,by simpa using this.2⟩
 |n+1,[],K,h=>by simp[Gn]at h
def ldW(T:Tab)(t:Nat)(cs:List AV)(K:AV->Prop):Prop:=
 match T.get t with
 |none=>False
 | some i=>match LD i.desc with
   |true=>SI i.size cs fun l=>K (.agg l)
   | false=>match cs with
     |c::_=>K c
     |[]=>False
def Bq:List LV->Option (List AV)
 |[]=>some []
 |.p a::r=>(Bq r).map (a :: ·)
 |_::_=>none
def mkAgg(ls:List LV):LV:=match Bq ls with
 |some l=>.p (.agg l)
 |none=>.agg ls
def mkTup(ls:List LV):LV:=match Bq ls with
 |some l=>.p (.tup l)
 |none=>.tup ls
theorem GY:∀{ls:List LV}{l:List AV},Bq ls=some l->ls=l.map .p
 |[],l,h=>by simp[Bq]at h;subst h;rfl
 | .p a::r,l,h=>by
   simp only[Bq,x9d]at h;obtain⟨l',i,rfl⟩:=h;simp[GY i]
 |.ptr _ _::_,_,h=>by simp[Bq]at h
 |.hd _ _ _::_,_,h=>by simp[Bq]at h
 |.agg _::_,_,h=>by simp[Bq]at h
 |.tup _::_,_,h=>by simp[Bq]at h
 |.ext _ _::_,_,h=>by simp[Bq]at h
theorem RepL.mkAgg{σ:Mem}{β:Lab}{ls:List LV}{vs:Array Value}(u:Nat->Value)(q:vs.size=ls.length)(m:∀(j:Nat)(l:LV),ls[j]?=some l->vs[j]?=some (u j))(hr:∀(j:Nat)(l:LV),ls[j]?=some l->RepL σ β l (u j)):RepL σ β (mkAgg ls) (.agg vs):=by
 unfold Ab.mkAgg;split
 .rename_i l r;have:=GY r;subst this;refine .p (.agg l vs u (by simpa using q) (fun j c i=>m j (.p c) (by simp[i])) fun j c i=>?_);have:=hr j (.p c) (by simp[i]);cases this with
  |p h=>exact h
 .exact .agg ls vs u q m hr
theorem RepL.mkTup{σ:Mem}{β:Lab}{ls:List LV}{vs:Array Value}(u:Nat->Value)(q:vs.size=ls.length)(m:∀(j:Nat)(l:LV),ls[j]?=some l->vs[j]?=some (u j))(hr:∀(j:Nat)(l:LV),ls[j]?=some l->RepL σ β l (u j)):RepL σ β (mkTup ls) (.tuple vs):=by
 unfold Ab.mkTup;split
 .rename_i l r;have:=GY r;subst this;refine .p (.tup l vs u (by simpa using q) (fun j c i=>m j (.p c) (by simp[i])) fun j c i=>?_);have:=hr j (.p c) (by simp[i]);cases this with
  |p h=>exact h
 .exact .tup ls vs u q m hr
def ldL(T:Tab)(t:Nat)(cs:List LV)(K:LV->Prop):Prop:=
 match T.get t with
 |none=>False
 | some i=>match LD i.desc with
   |true=>Gn i.size cs fun l=>K (mkAgg l)
   | false=>match cs with
     |c::_=>K c
     |[]=>False
def getH:Heap->Nat->Option Chunk
 |[],_=>none
 |(j,c)::r,k=>bif j==k then some c else getH r k
theorem QG:∀{H:Heap}{k:Nat}{c:Chunk},getH H k=some c->(k,c)∈H
 |[],_,_,h=>by simp[getH]at h
 | (j,c')::r,k,c,h=>by
   simp only[getH]at h;by_cases i:j=k
   .subst i;simp at h;subst h;simp
   .have:(j==k)=false:=by simp[i]
    simp only[this,x5q]at h;exact x4x _ (QG h)
def UF{P:Program}{T:Tab}(hT:TabOK P T){t:Nat}{i:TyI}(u:T.get t=some i){w:World}{b off:Nat}{cells:Array Value}{e:TypeId}{q:Nat×Nat}(r:w.heap[b]?=some (.cells cells e q)):
  (LD i.desc=true->(i.size=0\/off+i.size<=cells.size)->(Instr.loadAt t (.pointer (some ⟨b,off,none⟩))).run P w=.ok (.agg ((cells.toList.drop off).take i.size).toArray) w)/\
  (LD i.desc=false->∀v,cells[off]?=some v->(Instr.loadAt t (.pointer (some ⟨b,off,none⟩))).run P w=.ok v w):=by
 have k:=hT t i u;have h:∀o,w.cell? ⟨b,o,none⟩=cells[o]?:=fun o=>by simp[World.cell?,r]
 have l:∀j,(⟨b,off,none⟩:Addr).add j=⟨b,off+j,none⟩:=fun j=>by unfold Addr.add;split<;>simp_all
 constructor
 .intro ha z;have m:((cells.toList.drop off).take i.size).length=i.size:=by
   simp only[x5z,x6c,x6g];omega
  have p:=run_loadCells_list (P:=P) w ⟨b,off,none⟩ ((cells.toList.drop off).take i.size) (fun j v n=>by
    rw[l,h];rw[x5s]at n;split at n
    .simpa using n
    .cases n)
  rw[m]at p;simp[Instr.loadAt,Instr.sureAddr,loadVar,k.isAgg,ha,k.sizeOf,p]
 .intro ha v x;simp[Instr.loadAt,Instr.sureAddr,loadVar,k.isAgg,ha,h,x]
def As{P:Program}{T:Tab}(hT:TabOK P T){t:Nat}{cs:List AV}{K:AV->Prop}(h:ldW T t cs K){σ:Mem}{v:Value}(hr:Rep σ (.ip cs) v):
  ∃c u,K c/\Rep σ c u/\∀w',σ.lies w'->(Instr.loadAt t v).run P w'=.ok u w':=by
 cases hr with
 | ip _ b off cells u z p n=>
   unfold ldW at h;split at h
   .exact h.elim
   rename_i i d;split at h
   .rename_i ha;obtain⟨B,f⟩:=Gm h;have m:i.size=0\/off+i.size<=cells.size:=by
     by_cases A:i.size=0
     .exact .inl A
     .refine .inr ?_;have:=p (i.size-1) (cs[i.size-1]'(by omega)) (by simp);have:=(x4t.1 this).1;omega
    refine⟨_,_,B,.agg _ ((cells.toList.drop off).take i.size).toArray u (by simp only[x8y,x5z,x6c,x6g];omega) (fun j c k=>?_) (fun j c k=>?_),fun w' l=>?_⟩
    .rw [x5s]at k;split at k
     .rename_i x;have:=p j c k;simp[x,this]
     .cases k
    .rw [x5s]at k;split at k
     .exact n j c k
     .cases k
    .obtain ⟨e,g,q⟩:=l b cells z;exact(UF hT d q).1 ha m
   .rename_i ha;split at h
    .rename_i c r;refine⟨c,u 0,h,n 0 c (by simp),fun w' l=>?_⟩;obtain⟨e,g,q⟩:=l b cells z;exact(UF hT d q).2 ha _ (by simpa using p 0 c (by simp))
    .exact h.elim
def LP{P:Program}{T:Tab}(hT:TabOK P T){t:Nat}{cs:List LV}{K:LV->Prop}(h:ldL T t cs K){σ:Mem}{β:Lab}{w:World}{b off:Nat}{cells:Array Value}{e:TypeId}{B:Nat×Nat}(d:w.heap[b]?=some (.cells cells e B))(x:∀(j:Nat)(l:LV),cs[j]?=some l->∃u:Value,cells[off+j]?=some u/\RepL σ β l u):
  ∃c u,K c/\RepL σ β c u/\∀w',w'.heap[b]?=w.heap[b]? ->(Instr.loadAt t (.pointer (some ⟨b,off,none⟩))).run P w'=.ok u w':=by
 unfold ldL at h;split at h
 .exact h.elim
 rename_i i f;have k:∀j,∃u:Value,∀l,cs[j]?=some l->cells[off+j]?=some u/\RepL σ β l u:=fun j=>by
  cases m:cs[j]?with
  |none=>exact⟨undef,fun l h=>by cases h⟩
  |some l=>obtain⟨u,p,v⟩:=x j l m;exact⟨u,fun l' h=>by cases h;exact⟨p,v⟩⟩
 obtain⟨u,A⟩ : ∃u:Nat->Value,∀(j:Nat)(l:LV),cs[j]?=some l->cells[off+j]?=some (u j)/\RepL σ β l (u j):=⟨fun j=>(k j).choose,fun j=>(k j).choose_spec⟩;clear k;split at h
 .rename_i ha;obtain⟨D,g⟩:=NT h;have q:i.size=0\/off+i.size<=cells.size:=by
   by_cases C:i.size=0
   .exact .inl C
   .refine .inr ?_;obtain⟨u,p,_⟩:=x (i.size-1) (cs[i.size-1]'(by omega)) (by simp);have:=(x4t.1 p).1;omega
  refine⟨_,_,D,RepL.mkAgg (vs:=((cells.toList.drop off).take i.size).toArray) u (by simp only[x8y,x5z,x6c,x6g];omega) (fun j c m=>?_) (fun j c m=>?_),fun w' n=>(UF hT f (n.trans d)).1 ha q⟩
  .rw [x5s]at m;split at m
   .rename_i z;have:=(A j c m).1;simp[z,this]
   .cases m
  .rw [x5s]at m;split at m
   .exact (A j c m).2
   .cases m
 .rename_i ha;split at h
  .rename_i c r;obtain⟨u,p,v⟩:=x 0 c (by simp);exact⟨c,u,h,v,fun w' n=>(UF hT f (n.trans d)).2 ha _ (by simpa using p)⟩
  .exact h.elim
structure ValO(P:Program)(hr:Bool)(s:St)(o:Oper)(K:LV->Prop):Prop where
 ok:∀(σ:Mem)(β:Lab)(a:Act)(w:World),(∀i,RepL σ β (getS s.sl i) (a.tmps.getD i undef))->HRel σ β s.H w->
  ∃v u,K v/\RepL σ β v u/\∀w',σ.lies w'->(hr=true->Old w w')->(execOp a.eval o).run P w'=.ok (.value u) w'
def PD:LV->Option Bool
 |.p .nilp=>some true
 |.p (.ip _)=>some false
 |.ptr _ _=>some false
 |_=>none
def x2h(op:BinOp)(k:IntKind)(a b:Int)(K:LV->Prop):Prop:=
 match op with
 |.add=>Wr k (a+b) fun n=>K (.p (.int k n))
 |.sub=>Wr k (a-b) fun n=>K (.p (.int k n))
 |.mul=>Wr k (a*b) fun n=>K (.p (.int k n))
 |.quo=>b≠0/\Wr k (a.tdiv b) fun n=>K (.p (.int k n))
 |.rem=>b≠0/\K (.p (.int k (a.tmod b)))
 |.eql=>K (.p (.bool (a==b)))
 |.neq=>K (.p (.bool (a != b)))
 |.lss=>K (.p (.bool (decide (a<b))))
 |.leq=>K (.p (.bool (decide (a<=b))))
 |.gtr=>K (.p (.bool (decide (a>b))))
 |.geq=>K (.p (.bool (decide (a≥b))))
 |_=>False
def x2r(op:BinOp)(s t:List UInt8)(K:LV->Prop):Prop:=
 match op with
 |.add=>s.length+t.length<=maxLen/\K (.p (.str (s++t)))
 |.eql=>K (.p (.bool (s==t)))
 |.neq=>K (.p (.bool (!(s==t))))
 |.lss=>K (.p (.bool (Op.bytesLess s t)))
 |.leq=>K (.p (.bool (Op.bytesLess s t||s==t)))
 |.gtr=>K (.p (.bool (!(Op.bytesLess s t||s==t))))
 |.geq=>K (.p (.bool (!(Op.bytesLess s t))))
 |_=>False
def WA:LV->Option (List LV)
 |.p (.agg cs)=>some (cs.map .p)
 |.agg ls=>some ls
 |l=>bif l.one then some [l]else none
def RB:LV->Option Int
 |.p (.int _ n)=>some n
 |_=>none
def Bv(sl:List (Nat×LV)):Option Operand->Option (Option Int)
 |none=>some none
 |some x=>(RB (QD sl x)).map some
def Sz(place:Nat->Option (Nat×Nat))(cells:List LV):List (Nat×LV)->Option (List LV)
 |[]=>some cells
 | (i,v)::r=>match place i with
   |none=>none
   | some (off,size)=>match WA v with
     |none=>none
     |some vs=>bif vs.length==size&&ble (off+size) cells.length then Sz place (cells.take off++vs++cells.drop (off+size)) r else none
def Yk(T:Tab)(d:TypeDesc)(i:Nat):Option (Nat×Nat):=
 match d with
 | .struct fs=>match fs[i]?with
   |some f=>(T.get f.type).map fun x=>(f.offset,x.size)
   |none=>none
 |.array _ e=>(T.get e).map fun x=>(i*x.size,x.size)
 |_=>none
def Wb(T:Tab):TypeDesc->Bool
 |.struct fs=>fs.toList.all fun f=>(T.get f.type).isSome
 |.array _ e=>(T.get e).isSome
 |_=>false
def HL(P:Program)(T:Tab)(hr:Bool)(s:St)(o:Oper)(K:LV->Prop):Prop:=
 match o.op with
 |.move x |.assign x=>K (QD s.sl x)
 | .pick c a b=>match QD s.sl c with
   |.p .tt=>K (QD s.sl a)
   |.p .ff=>K (QD s.sl b)
   |.p (.bool t)=>Br t (K (QD s.sl a)) (K (QD s.sl b))
   |_=>False
 | .fieldAddr t x f=>match T.get t with
   | some {desc:=.struct fs,..}=>match fs[f]?with
     | some j=>match T.get j.type with
       | some {size:=.succ _,..}=>match QD s.sl x with
         |.p (.ip cs)=>K (.p (.ip (cs.drop j.offset)))
         |.ptr k off=>K (.ptr k (off+j.offset))
         |_=>False
       |_=>False
     |none=>False
   |_=>False
 | .load t x=>match QD s.sl x with
   |.p (.ip cs)=>ldW T t cs fun a=>K (.p a)
   | .ptr k off=>match hr with
     | true=>match getH s.H k with
       |some (.obj _ cs)=>ldL T t (cs.drop off) K
       |some (.own _ sz es)=>LdOwn es sz off fun cs=>ldW T t cs fun a=>K (.p a)
       | some (.ext (.mat _ _ _ rows hole))=>match T.get t with
         |some {desc:=.slice _,..}=>RowK rows hole off fun a n=>K (.ext k (.row a n))
         |_=>False
       |some (.ext _)=>False
       |none=>False
     |false=>False
   | .ext k (.rptr a off)=>match hr with
     | true=>match getH s.H k with
       |some (.ext (.mat _ _ sz rows hole))=>RLd rows hole a sz off fun cs=>ldW T t cs fun a=>K (.p a)
       |_=>False
     |false=>False
   |_=>ValO P hr s o K
 | .nilCheck x=>match QD s.sl x with
   |.p (.ip cs)=>K (.p (.ip cs))
   |.ptr k off=>K (.ptr k off)
   |.p (.fn f cs)=>K (.p (.fn f cs))
   |_=>ValO P hr s o K
 | .binOp op t x y _=>match QD s.sl x,QD s.sl y with
   | .p (.int k a),.p (.int k' b)=>match op with
     |.shl |.shr |.and |.or |.xor |.andNot=>ValO P hr s o K
     |_=>if k=k' then x2h op k a b K else False
   |.p (.str a),.p (.str b)=>x2r op a b K
   | x,y=>match op with
     | .eql=>match T.get t with
       | some {desc:=.pointer _,..}=>match PD x,PD y with
         |some true,some true=>K (.p .tt)
         |some true,some false=>K (.p .ff)
         |some false,some true=>K (.p .ff)
         |_,_=>ValO P hr s o K
       |_=>ValO P hr s o K
     | .neq=>match T.get t with
       | some {desc:=.pointer _,..}=>match PD x,PD y with
         |some true,some true=>K (.p .ff)
         |some true,some false=>K (.p .tt)
         |some false,some true=>K (.p .tt)
         |_,_=>ValO P hr s o K
       |_=>ValO P hr s o K
     |_=>ValO P hr s o K
 | .unOp op _ x=>match op,QD s.sl x with
   |.not,.p .tt=>K (.p .ff)
   |.not,.p .ff=>K (.p .tt)
   |.not,.p (.bool b)=>K (.p (.bool (!b)))
   |.neg,.p (.int k n)=>Wr k (0-n) fun n=>K (.p (.int k n))
   |_,_=>ValO P hr s o K
 | .convert src dst x=>match T.get src,T.get dst,QD s.sl x with
   |some _,some {desc:=.int k,..},.p (.int _ n)=>Wr k n fun n=>K (.p (.int k n))
   |some _,some {desc:=.string,..},.p (.str a)=>K (.p (.str a))
   |_,_,_=>ValO P hr s o K
 | .slice t x lo hi none=>match T.get t,Bv s.sl lo,Bv s.sl hi with
   | some {desc:=.string,..},some l,some h=>match QD s.sl x with
     |.p (.str a)=>SlK a.length l h fun l h=>K (.p (.str ((a.take h).drop l)))
     |_=>False
   | some {desc:=.slice e,..},some l,some h=>match T.get e,QD s.sl x with
     |some ie,.p (.sl es)=>(∀e∈es,e.cells.length=ie.size)/\SlK es.length l h fun l h=>K (.p (.sl ((es.take h).drop l)))
     | some ie,.hd k off len=>match getH s.H k with
       |some (.own _ sz _)=>sz=ie.size/\SlK len l h fun l h=>K (.hd k (off+l) (h-l))
       |_=>False
     |_,_=>ValO P hr s o K
   |_,_,_=>ValO P hr s o K
 | .field t x f=>match T.get t with
   | some {desc:=.struct fs,..}=>match fs[f]?with
     | some j=>match QD s.sl x with
       |.p (.agg cs)=>ldW T j.type (cs.drop j.offset) fun a=>K (.p a)
       |.agg ls=>ldL T j.type (ls.drop j.offset) K
       |_=>False
     |none=>False
   |_=>False
 | .indexAddr t x i=>match T.get t,QD s.sl i with
   | some {desc:=.slice e,..},.p (.int _ n)=>match T.get e,QD s.sl x with
     |some ie,.p (.sl es)=>IdxK es ie.size n fun cs=>K (.p (.ip cs))
     | some ie,.hd k off len=>match getH s.H k with
       |some (.own _ sz _)=>sz=ie.size/\IdxL len n fun i=>K (.ptr k ((off+i)*sz))
       |some (.ext (.mat _ _ _ _ _))=>1=ie.size/\IdxL len n fun i=>K (.ptr k (off+i))
       |some (.obj _ _)=>off=0/\IdxL len n fun i=>K (.ptr k (i*ie.size))
       |_=>False
     | some ie,.ext k (.row a len)=>match getH s.H k with
       |some (.ext (.mat _ _ sz _ _))=>sz=ie.size/\IdxL len n fun i=>K (.ext k (.rptr a (i*sz)))
       |_=>False
     |_,_=>False
   | some {desc:=.array len e,..},.p (.int _ n)=>match T.get e,QD s.sl x with
     |some ie,.p (.ip cs)=>IdxL len n fun i=>K (.p (.ip (cs.drop (i*ie.size))))
     |some ie,.ptr k off=>IdxL len n fun i=>K (.ptr k (off+i*ie.size))
     |_,_=>False
   |_,_=>False
 | .index t x i=>match T.get t,QD s.sl i with
   | some {desc:=.string,..},.p (.int _ n)=>match QD s.sl x with
     |.p (.str a)=>ByteK a n fun c=>K (.p (.int .u8 c.toNat))
     |_=>False
   | some {desc:=.array len e,..},.p (.int _ n)=>match T.get e,QD s.sl x with
     |some ie,.p (.agg cs)=>IdxL len n fun i=>ldW T e (cs.drop (i*ie.size)) fun a=>K (.p a)
     |_,_=>False
   |_,_=>False
 | .extract x i=>match QD s.sl x with
   | .p (.tup vs)=>match vs[i]?with
     |some v=>K (.p v)
     |none=>False
   | .tup vs=>match vs[i]?with
     |some v=>K v
     |none=>False
   |_=>False
 | .build t parts=>match T.get t with
   | some i=>match AV.ofV i.zero with
     | .agg z=>Wb T i.desc=true/\match Sz (Yk T i.desc) (z.map .p) (parts.toList.map fun x=>(x.1,QD s.sl x.2))with
       |some cs=>K (mkAgg cs)
       |none=>False
     |_=>False
   |none=>False
 | .makeFunc (.func f) first caps=>match first.toList,Bq (caps.toList.map (QD s.sl))with
   |[],some l=>K (.p (.fn f l))
   |_,_=>ValO P hr s o K
 | .call {callee:=.builtin .len,args,argTypes}=>match args.toList.map (QD s.sl),argTypes.toList.map T.get with
   |[.p (.str a)],[some {desc:=.string,..}]=>a.length<=maxLen->K (.p (.int .i64 a.length))
   |[.p (.sl es)],[some {desc:=.slice _,..}]=>es.length<=maxLen->K (.p (.int .i64 es.length))
   |[.p .nils],[some {desc:=.slice _,..}]=>K (.p (.int .i64 0))
   | [.hd k _ len],[some {desc:=.slice _,..}]=>match getH s.H k with
     |some (.own _ _ _)=>len<=maxLen->K (.p (.int .i64 len))
     |some (.ext (.mat _ _ _ _ _))=>K (.p (.int .i64 len))
     |_=>False
   |[.ext _ (.row _ len)],[some {desc:=.slice _,..}]=>K (.p (.int .i64 len))
   |_,_=>ValO P hr s o K
 |_=>ValO P hr s o K
def Snd(P:Program)(hr:Bool)(σ:Mem)(β:Lab)(a:Act)(w:World)(o:Oper)(K:LV->Prop):Prop:=
 ∃v u,K v/\RepL σ β v u/\∀w',σ.lies w'->(hr=true->Old w w')->(execOp a.eval o).run P w'=.ok (.value u) w'
section
variable {P:Program}{T:Tab}{hr:Bool}{σ:Mem}{β:Lab}{a:Act}{w:World}{o:Oper}{K:LV->Prop}{s:St}
theorem Snd.mk{v:LV}{u:Value}(j:K v)(i:RepL σ β v u)(h:∀w',σ.lies w'->(hr=true->Old w w')->(execOp a.eval o).run P w'=.ok (.value u) w'):Snd P hr σ β a w o K:=
 ⟨v,u,j,i,h⟩
def SB{op:BinOp}{t u:TypeId}{x:Operand}(q:o.op=.binOp op t x y u){k:IntKind}{m n:Int}(c:a.eval x=.int k m)(d:a.eval y=.int k n)(l:op ≠ .shl/\op ≠ .shr/\op ≠ .and/\op ≠ .or/\op ≠ .xor/\op ≠ .andNot)(h:x2h op k m n K):Snd P hr σ β a w o K:=by
 have b:∀w',(eqGuard op t x y (.int k m) (.int k n)).run P w'=.ok () w':=fun w'=>by
  unfold eqGuard;cases op<;>rfl
 have key:∀(r:Value)(i:∀w',(binOp op t (.int k m) (.int k n)).run P w'=.ok r w')(v:LV)(_:K v)(_:RepL σ β v r),Snd P hr σ β a w o K:=fun r i v z j=>
  .mk z j fun w' _ _=>by
   simp only[execOp,q,c,d,Sem.run_bind,b,i,Result.andThen_ok,Sem.run_pure]
 cases op with
 |add=>exact key _ (fun w'=>by simp[binOp,Op.intArith]) _ (Wr.get h) (.p (.int _ _))
 |sub=>exact key _ (fun w'=>by simp[binOp,Op.intArith]) _ (Wr.get h) (.p (.int _ _))
 |mul=>exact key _ (fun w'=>by simp[binOp,Op.intArith]) _ (Wr.get h) (.p (.int _ _))
 |quo=>exact key _ (fun w'=>by simp[binOp,Op.intDiv,h.1]) _ (Wr.get h.2) (.p (.int _ _))
 |rem=>exact key _ (fun w'=>by simp[binOp,Op.intDiv,h.1]) _ h.2 (.p (.int _ _))
 |eql=>exact key _ (fun w'=>by simp[binOp,Op.intCmp]) _ h (.p (.bool _))
 |neq=>exact key _ (fun w'=>by simp[binOp,Op.intCmp]) _ h (.p (.bool _))
 |lss=>exact key _ (fun w'=>by simp[binOp,Op.intCmp]) _ h (.p (.bool _))
 |leq=>exact key _ (fun w'=>by simp[binOp,Op.intCmp]) _ h (.p (.bool _))
 |gtr=>exact key _ (fun w'=>by simp[binOp,Op.intCmp]) _ h (.p (.bool _))
 |geq=>exact key _ (fun w'=>by simp[binOp,Op.intCmp]) _ h (.p (.bool _))
 |_=>simp at l
def JH(s:List UInt8):(⟨s.toArray⟩:ByteArray).toList=s:=by
 rw[ByteArray.toList_eq]
def Qv(s:List UInt8):(⟨s.toArray⟩:ByteArray).size=s.length:=by
 simp[ByteArray.size]
def SN{op:BinOp}{t u:TypeId}{x:Operand}(q:o.op=.binOp op t x y u){m n:List UInt8}(d:a.eval x=.string ⟨m.toArray⟩)(e:a.eval y=.string ⟨n.toArray⟩)(h:x2r op m n K):Snd P hr σ β a w o K:=by
 have c:∀w',(eqGuard op t x y (.string ⟨m.toArray⟩) (.string ⟨n.toArray⟩)).run P w'=.ok () w':=fun w'=>by
  unfold eqGuard;cases op<;>rfl
 have key:∀(r:Value)(j:∀w',(Op.stringOp op ⟨m.toArray⟩ ⟨n.toArray⟩).run P w'=.ok r w')(v:LV)(_:K v)(_:RepL σ β v r),Snd P hr σ β a w o K:=fun r j v b k=>
  .mk b k fun w' _ _=>by
   simp only[execOp,q,d,e,Sem.run_bind,c,Result.andThen_ok,Sem.run_pure];have:binOp op t (.string ⟨m.toArray⟩) (.string ⟨n.toArray⟩)=Op.stringOp op ⟨m.toArray⟩ ⟨n.toArray⟩:=by cases op<;>rfl
   rw[this,j,Result.andThen_ok]
 cases op with
 | add=>
   refine key (.string ⟨(m++n).toArray⟩) (fun w'=>?_) _ h.2 (.p (.str _ (by simpa using h.1)));have z:=h.1;simp only[maxLen]at z;have i:IntKind.i64.max=9223372036854775807:=rfl;have l:¬(((⟨m.toArray⟩:ByteArray).size+(⟨n.toArray⟩:ByteArray).size:Nat):Int)>IntKind.i64.max:=by
    rw[Qv,Qv,i];omega
   simp only[Op.stringOp,if_neg l,Sem.run_pure];congr 2
 |eql=>exact key _ (fun w'=>by simp only[Op.stringOp,JH];rfl) _ h (.p (.bool _))
 |neq=>exact key _ (fun w'=>by simp only[Op.stringOp,JH];rfl) _ h (.p (.bool _))
 |lss=>exact key _ (fun w'=>by simp only[Op.stringOp,JH];rfl) _ h (.p (.bool _))
 |leq=>exact key _ (fun w'=>by simp only[Op.stringOp,JH];rfl) _ h (.p (.bool _))
 |gtr=>exact key _ (fun w'=>by simp only[Op.stringOp,JH];rfl) _ h (.p (.bool _))
 |geq=>exact key _ (fun w'=>by simp only[Op.stringOp,JH];rfl) _ h (.p (.bool _))
 |_=>exact h.elim
def Ua{v:LV}{u:Value}(h:RepL σ β v u){b:Bool}(j:PD v=some b):(b=true->u=.pointer none)/\(b=false->∃x,u=.pointer (some x)):=by
 cases h with
 |p h=>cases h<;>simp[PD]at j<;>subst j<;>simp
 |ptr k off i l=>simp[PD]at j;subst j;simp
 |_=>simp[PD]at j
def SP{op:BinOp}{t u:TypeId}{x:Operand}(m:o.op=.binOp op t x y u){e:TypeId}(D:P.underlying t=some (.pointer e)){j i:Bool}(r:(j=true->a.eval x=.pointer none)/\(j=false->∃z,a.eval x=.pointer (some z)))(b:(i=true->a.eval y=.pointer none)/\(i=false->∃z,a.eval y=.pointer (some z)))(C:j=true\/i=true)(n:op=.eql\/op=.neq){v:LV}(B:K v)(E:RepL σ β v (.bool (if op=.eql then(j&&i)else !(j&&i)))):Snd P hr σ β a w o K:=by
 have d:∀w',(Op.equal t (a.eval x) (a.eval y)).run P w'=.ok (j&&i) w':=fun w'=>by
  have e:∀p q,Op.equal t p q=Op.equalIn (9999+1) t p q:=fun p q=>rfl;rw[e,Op.equalIn,Sem.run_bind,run_underlying D,Result.andThen_ok];cases j<;>cases i<;>simp at C
  .obtain ⟨z,A⟩:=r.2 rfl;rw[A,b.1 rfl];rfl
  .obtain ⟨z,A⟩:=b.2 rfl;rw[A,r.1 rfl];rfl
  .rw [r.1 rfl,b.1 rfl];rfl
 have f:∃z,a.eval x=.pointer z:=by cases j;exact let ⟨z,h⟩:=r.2 rfl;⟨_,h⟩;exact⟨_,r.1 rfl⟩
 have g:∃z,a.eval y=.pointer z:=by cases i;exact let ⟨z,h⟩:=b.2 rfl;⟨_,h⟩;exact⟨_,b.1 rfl⟩
 obtain⟨F,k⟩:=f;obtain⟨G,l⟩:=g;refine .mk B E fun w' _ _=>?_;have c:=d w';rw[k,l]at c;rcases n with rfl|rfl
 .simp only[execOp,m,k,l,eqGuard,binOp,Sem.run_bind];simp[c]
 .simp only[execOp,m,k,l,eqGuard,binOp,Sem.run_bind];simp[c]
theorem TabOK.of{P:Program}{T:Tab}(hT:TabOK P T){t:Nat}{i:TyI}(h:T.get t=some i):P.underlying t=some i.desc:=(hT t i h).under
def JF(b off n:Nat):(⟨b,off,none⟩:Addr).add n=⟨b,off+n,none⟩:=by unfold Addr.add;split<;>simp_all
theorem Rep.ip_drop{σ:Mem}{cs:List AV}{b off:Nat}(h:Rep σ (.ip cs) (.pointer (some ⟨b,off,none⟩)))(n:Nat):Rep σ (.ip (cs.drop n)) (.pointer (some ⟨b,off+n,none⟩)):=by
 cases h with
 | ip _ _ _ cells u l m hr=>
   exact .ip _ b (off+n) cells (fun j=>u (n+j)) l (fun j c i=>by
    have:=m (n+j) c (by simpa using i)
    rwa[<-x8j]at this) (fun j c i=>hr (n+j) c (by simpa using i))
def D4(hT:TabOK P T){t:TypeId}{x:Operand}{f:Nat}(q:o.op=.fieldAddr t x f)(h:HL P T hr s o K)(C:∀i,RepL σ β (getS s.sl i) (a.tmps.getD i undef)):Snd P hr σ β a w o K:=by
 simp only[HL,q]at h;split at h<;>first|exact h.elim|skip
 rename_i fs _ _ _ D;split at h<;>first|exact h.elim|skip
 rename_i z g;split at h<;>first|exact h.elim|skip
 rename_i n _ _ d;have m:=hT _ _ d;have j:∀(b off:Nat)(w':World),a.eval x=.pointer (some ⟨b,off,none⟩)->(execOp a.eval o).run P w'=.ok (.value (.pointer (some ⟨b,off+z.offset,none⟩))) w':=by
  intro b off w' l;simp[execOp,q,Instr.fieldAt,run_underlying (hT.of D),g,Instr.sureAddr,l,fieldPlace,m.sizeOf,JF]
 have l:=QX C x;split at h<;>first|exact h.elim|skip
 .rename_i cs c;rw[c]at l;cases l with
  | p l=>
    have r:=l;generalize e:a.eval x=v at l r;cases l with
    |ip _ b off cells u E F B=>exact .mk h (.p (r.ip_drop _)) fun w' _ _=>j b off w' e
 .rename_i k off c;rw[c]at l;generalize e:a.eval x=v at l;cases l with
  |ptr _ _ i A=>exact .mk h (.ptr k _ i A) fun w' _ _=>j i.blk off w' e
def Io(l:List AV):Bq (l.map .p)=some l:=by
 induction l with
 |nil=>rfl
 |cons c r h=>simp[Bq,h]
theorem Zc:∀(n:Nat)(cs:List AV)(Q:List AV->Prop)(Q':List LV->Prop),(∀l,Q l->Q' (l.map .p))->SI n cs Q->Gn n (cs.map .p) Q'
 |0,_,_,_,hQ,hq=>hQ [] hq
 |_+1,[],_,_,_,hq=>hq.elim
 |n+1,c::r,Q,Q',hQ,hq=>Zc n r (fun l=>Q (c::l)) (fun l=>Q' (.p c::l)) (fun l h=>by simpa using hQ (c::l) h) hq
def Fk{t:Nat}{cs:List AV}{K:AV->Prop}(h:ldW T t cs K):ldL T t (cs.map .p) (fun l=>∃c,K c/\l=.p c):=by
 unfold ldW at h;unfold ldL;cases k:T.get t with
 |none=>rw[k]at h;exact h.elim
 | some i=>
   rw[k]at h;cases j:LD i.desc with
   | true=>
     simp only[j]at h⊢;exact Zc _ _ _ _ (fun l m=>⟨.agg l,m,by simp[mkAgg,Io]⟩) h
   | false=>
     simp only[j]at h⊢;cases cs with
     |nil=>exact h.elim
     |cons c r=>exact⟨c,h,rfl⟩
def q0n(hT:TabOK P T){t:TypeId}{x:Operand}(hop:o.op=.load t x)(h:HL P T hr s o K)(hs:∀i,RepL σ β (getS s.sl i) (a.tmps.getD i undef))(hH:HRel σ β s.H w):Snd P hr σ β a w o K:=by
 simp only[HL,hop]at h;have d:∀w' v,(Instr.loadAt t (a.eval x)).run P w'=.ok v w'->(execOp a.eval o).run P w'=.ok (.value v) w':=fun w' v F=>by
  simp[execOp,hop,F]
 have g:=QX hs x;split at h
 .rename_i cs he;rw[he]at g;cases g with
  | p g=>
    obtain⟨c,u,E,r,z⟩:=As hT h g;exact .mk E (.p r) fun w' q _=>d w' u (z w' q)
 .rename_i k off he;rw[he]at g;split at h<;>first|exact h.elim|skip
  split at h<;>first|exact h.elim|skip
  rotate_left 2
  .rename_i e e2 sz rows hole R;split at h<;>first|exact h.elim|skip
   rename_i B _ _ _ ht;obtain⟨m,row,ho,D,V,E⟩:=h;subst ho;generalize F:a.eval x=v at g;cases g with
   | ptr _ _ i' A=>
     rcases hH.chunks k _ (QG R)with J|⟨i,vs,C,h1,I,h2,Z,h4,h5,h6,N⟩
     .rw [A]at J;cases J.1
     .rw [A]at C;cases C;have hag:LD (TypeDesc.slice B)=false:=rfl;have hlt:=(x4t.1 I).1;have z:=fun w' (q:Old w w')=>(UF (P:=P) hT ht ((q _ hlt).trans I) (off:=off)).2 hag;rcases(N off row D).2 V with⟨G,rfl,h8⟩|⟨b,c,ws,G,h8,_,_,h9,_⟩
      .exact .mk E (.ext k _ i' _ A (.inl ⟨G,rfl,rfl⟩)) fun w' _ q=>by
        exact d _ _ (by rw[F];exact z _ (q rfl) _ h8)
      .exact .mk E (.ext k _ i' _ A (.inr ⟨b,c,G,h9,rfl⟩)) fun w' _ q=>by
        exact d _ _ (by rw[F];exact z _ (q rfl) _ h8)
  .rename_i e cs R;obtain⟨i,vs,C,I,hn,N⟩:=hH.chunks k _ (QG R);generalize F:a.eval x=v at g;cases g with
   | ptr _ _ i' A=>
     rw[A]at C;cases C;obtain⟨c,u,E,r,z⟩:=LP (P:=P) hT h (off:=off) I (fun j l hj=>N (off+j) l (by simpa using hj));exact .mk E r fun w' _ q=>by
      exact d _ u (by rw[F];exact z _ (q rfl _ (x4t.1 I).1))
  .rename_i e sz es R;obtain⟨m,j,B,ho,Q,E⟩:=h;generalize F:a.eval x=v at g;cases g with
   | ptr _ _ i' A=>
     rcases hH.chunks k _ (QG R)with J|⟨i,vs,C,hsz,I,hn,h1,h2,N⟩
     .rw [A]at J;cases J.1
     .rw [A]at C;cases C;have r:∀(n:Nat)(c:AV),(B.cells.drop j)[n]?=some c->∃u:Value,vs[off+n]?=some u/\Rep σ c u:=fun n c U=>by
       have:=(N m B Q).2 (j+n) c (by simpa using U)
       rwa[ho,x8j]
      obtain⟨c,u,⟨L,M,O⟩,f,z⟩:=LP (P:=P) (K:=fun l=>∃L,K (.p L)/\l=.p L) hT (t:=t) (cs:=(B.cells.drop j).map .p) (Fk E) (σ:=σ) (β:=β) I (off:=off) (fun n l z=>by
         rw[x4q]at z;cases Y:(B.cells.drop j)[n]?with
         |none=>rw[Y]at z;cases z
         | some c=>
           rw[Y]at z;cases z;obtain⟨u,Z,h4⟩:=r n c Y;exact⟨u,Z,.p h4⟩)
      subst O;exact .mk M f fun w' _ q=>by
       exact d _ u (by rw[F];exact z _ (q rfl _ (x4t.1 I).1))
 .rename_i k ra off he;rw[he]at g;split at h<;>first|exact h.elim|skip
  split at h<;>first|exact h.elim|skip
  rename_i e e2 sz rows hole R;obtain⟨row,m,j,B,D,V,ho,Q,E⟩:=h;generalize F:a.eval x=v at g;cases g with
  | ext _ _ i _ A hd=>
    obtain⟨b,c,hb,rfl⟩:=hd;rcases hH.chunks k _ (QG R)with J|⟨i',vs,C,h1,I,h2,Z,h4,h5,h6,N⟩
    .rw [A]at J;cases J.1
    .rw [A]at C;cases C;rcases(N ra row D).2 V with⟨G,_,_⟩|⟨b',c',ws,G,h8,h9,h10,h11,h12,h13⟩
     .rw [hb]at G;cases G
     .rw [hb]at G;cases G;have r:∀(n:Nat)(c:AV),(B.cells.drop j)[n]?=some c->∃u:Value,ws[off+n]?=some u/\Rep σ c u:=fun n c U=>by
       have:=(h13 m B Q).2 (j+n) c (by simpa using U)
       rwa[ho,x8j]
      obtain⟨c,u,⟨L,M,O⟩,f,z⟩:=LP (P:=P) (K:=fun l=>∃L,K (.p L)/\l=.p L) hT (t:=t) (cs:=(B.cells.drop j).map .p) (Fk E) (σ:=σ) (β:=β) h9 (off:=off) (fun n l z=>by
         rw[x4q]at z;cases Y:(B.cells.drop j)[n]?with
         |none=>rw[Y]at z;cases z
         | some c=>
           rw[Y]at z;cases z;obtain⟨u,Z,h4⟩:=r n c Y;exact⟨u,Z,.p h4⟩)
      subst O;exact .mk M f fun w' _ q=>by
       exact d _ u (by rw[F];exact z _ (q rfl _ (x4t.1 h9).1))
 .exact h.ok σ β a w hs hH
def Nf{x:Operand}(l:o.op=.nilCheck x)(h:HL P T hr s o K)(r:∀i,RepL σ β (getS s.sl i) (a.tmps.getD i undef))(hH:HRel σ β s.H w):Snd P hr σ β a w o K:=by
 simp only[HL,l]at h;have j:=QX r x;split at h
 .rename_i cs m;rw[m]at j;generalize n:a.eval x=v at j;refine .mk h j fun w' _ _=>?_;cases j with
  | p j=>cases j with
    |ip _ b off cells u z t q=>simp[execOp,l,n]
 .rename_i k off m;rw[m]at j;generalize n:a.eval x=v at j;refine .mk h j fun w' _ _=>?_;cases j with
  |ptr _ _ i c=>simp[execOp,l,n]
 .rename_i f cs m;rw[m]at j;generalize n:a.eval x=v at j;refine .mk h j fun w' _ _=>?_;cases j with
  | p j=>cases j with
    |fn _ _ vs u d t q=>simp[execOp,l,n]
 .exact h.ok σ β a w r hH
end
section
variable {P:Program}{T:Tab}{hr:Bool}{σ:Mem}{β:Lab}{a:Act}{w:World}{o:Oper}{K:LV->Prop}{s:St}
theorem RepL.int{k:IntKind}{n:Int}{v:Value}(h:RepL σ β (.p (.int k n)) v):v=.int k n:=by
 cases h with
 |p h=>cases h;rfl
theorem RepL.strV{l:List UInt8}{v:Value}(h:RepL σ β (.p (.str l)) v):v=.string ⟨l.toArray⟩/\l.length<=maxLen:=by
 cases h with
 | p h=>cases h with
   |str _ h=>exact⟨rfl,h⟩
def Tl{x:Operand}(j:o.op=.move x\/o.op=.assign x)(h:K (QD s.sl x))(k:∀i,RepL σ β (getS s.sl i) (a.tmps.getD i undef)):Snd P hr σ β a w o K:=
 .mk h (QX k x) fun w' _ _=>by rcases j with j|j<;>simp[execOp,j]
def q0m{c x:Operand}(m:o.op=.pick c x y)(h:HL P T hr s o K)(n:∀i,RepL σ β (getS s.sl i) (a.tmps.getD i undef)):Snd P hr σ β a w o K:=by
 simp only[HL,m]at h;have j:=QX n c;have run:∀(b:Bool)(w':World),a.eval c=.bool b->(execOp a.eval o).run P w'=.ok (.value (if b then a.eval x else a.eval y)) w':=fun b w' q=>by
  simp[execOp,m,q,asBool]
 split at h
 .rename_i l;rw[l]at j;cases j with
  | p j=>
    generalize k:a.eval c=v at j;cases j;exact .mk h (QX n x) fun w' _ _=>run _ w' k
 .rename_i l;rw[l]at j;cases j with
  | p j=>
    generalize k:a.eval c=v at j;cases j;exact .mk h (QX n y) fun w' _ _=>run _ w' k
 .rename_i t l;rw[l]at j;cases j with
  | p j=>
    generalize k:a.eval c=v at j;cases j;cases t with
    |true=>exact .mk (h.yes rfl) (QX n x) fun w' _ _=>run _ w' k
    |false=>exact .mk (h.no rfl) (QX n y) fun w' _ _=>run _ w' k
 .exact h.elim
def Ep(hT:TabOK P T){op:BinOp}{t u:TypeId}{x:Operand}(q:o.op=.binOp op t x y u)(h:HL P T hr s o K)(r:∀i,RepL σ β (getS s.sl i) (a.tmps.getD i undef))(hH:HRel σ β s.H w):Snd P hr σ β a w o K:=by
 simp only[HL,q]at h;have b:=QX r x;have c:=QX r y;split at h
 .rename_i k m G n f z;rw[f]at b;rw[z]at c;have b:=b.int;have c:=c.int;cases op<;>simp only[]at h<;>first|exact h.ok σ β a w r hH|skip
  all_goals
   split at h<;>first|exact h.elim|skip
   rename_i E;subst E;exact SB q b c (by decide) h
 .rename_i m n f z;rw[f]at b;rw[z]at c;exact SN q b.strV.1 c.strV.1 h
 .have done:∀(e:TypeId)(j:P.underlying t=some (.pointer e))(d l:Bool)(_:PD (QD s.sl x)=some d)(_:PD (QD s.sl y)=some l)(_:d=true\/l=true)
    (_:op=.eql\/op=.neq) (v:LV) (_:K v) (_:RepL σ β v (.bool (if op=.eql then(d&&l)else !(d&&l)))),Snd P hr σ β a w o K:=fun e j d l g A B C v D F=>
   SP q j (Ua b g) (Ua c A) B C D F
  split at h
  .split at h
   .rename_i e _ _ _ j;have j:=hT.of j;split at h
    .exact done e j _ _ ‹_› ‹_› (.inl rfl) (.inl rfl) _ h (.p .tt)
    .exact done e j _ _ ‹_› ‹_› (.inl rfl) (.inl rfl) _ h (.p .ff)
    .exact done e j _ _ ‹_› ‹_› (.inr rfl) (.inl rfl) _ h (.p .ff)
    .exact h.ok σ β a w r hH
   .exact h.ok σ β a w r hH
  .split at h
   .rename_i e _ _ _ j;have j:=hT.of j;split at h
    .exact done e j _ _ ‹_› ‹_› (.inl rfl) (.inr rfl) _ h (.p .ff)
    .exact done e j _ _ ‹_› ‹_› (.inl rfl) (.inr rfl) _ h (.p .tt)
    .exact done e j _ _ ‹_› ‹_› (.inr rfl) (.inr rfl) _ h (.p .tt)
    .exact h.ok σ β a w r hH
   .exact h.ok σ β a w r hH
  .exact h.ok σ β a w r hH
def q0l{op:UnOp}{t:TypeId}{x:Operand}(l:o.op=.unOp op t x)(h:HL P T hr s o K)(r:∀i,RepL σ β (getS s.sl i) (a.tmps.getD i undef))(hH:HRel σ β s.H w):Snd P hr σ β a w o K:=by
 simp only[HL,l]at h;have j:=QX r x;split at h
 .rename_i m;rw[m]at j;generalize q:a.eval x=v at j;cases j with
  |p j=>cases j;exact .mk h (.p .ff) fun w' _ _=>by simp[execOp,l,q,Op.unary]
 .rename_i m;rw[m]at j;generalize q:a.eval x=v at j;cases j with
  |p j=>cases j;exact .mk h (.p .tt) fun w' _ _=>by simp[execOp,l,q,Op.unary]
 .rename_i b m;rw[m]at j;generalize q:a.eval x=v at j;cases j with
  |p j=>cases j;exact .mk h (.p (.bool _)) fun w' _ _=>by simp[execOp,l,q,Op.unary]
 .rename_i k n m;rw[m]at j;have q:=j.int;exact .mk (Wr.get h) (.p (.int _ _)) fun w' _ _=>by simp[execOp,l,q,Op.unary,Op.intArith]
 .exact h.ok σ β a w r hH
def Lr(hT:TabOK P T){src q:TypeId}{x:Operand}(j:o.op=.convert src q x)(h:HL P T hr s o K)(z:∀i,RepL σ β (getS s.sl i) (a.tmps.getD i undef))(hH:HRel σ β s.H w):Snd P hr σ β a w o K:=by
 simp only[HL,j]at h;have m:=QX z x;split at h
 .rename_i i k _ _ _ c n r t u;rw[u]at m;have v:=m.int;exact .mk (Wr.get h) (.p (.int _ _)) fun w' _ _=>by
   simp[execOp,j,v,convert,run_underlying (hT.of r),run_underlying (hT.of t),Conv.intToInt]
 .rename_i i _ _ _ l r t u;rw[u]at m;obtain⟨v,b⟩:=m.strV;exact .mk h (.p (.str _ b)) fun w' _ _=>by
   simp[execOp,j,v,convert,run_underlying (hT.of r),run_underlying (hT.of t)]
 .exact h.ok σ β a w z hH
def Tu{hT:TabOK P T}{t:TypeId}{i:TyI}(j:T.get t=some i)(vs:Array Value)(off:Nat)(w':World):
  (LD i.desc=true->(part t vs off).run P w'=.ok (.agg (vs.extract off (off+i.size))) w')/\
  (LD i.desc=false->∀v,vs[off]?=some v->(part t vs off).run P w'=.ok v w'):=by
 have h:=hT t i j;exact⟨fun ha=>by simp[part,h.isAgg,ha,h.sizeOf],fun ha v k=>by simp[part,h.isAgg,ha,k]⟩
def Xm(hT:TabOK P T){t:Nat}{ls:List LV}{off:Nat}{K:LV->Prop}(h:ldL T t (ls.drop off) K){vs:Array Value}(f:∀(j:Nat)(l:LV),ls[j]?=some l->∃u:Value,vs[j]?=some u/\RepL σ β l u):
  ∃c u,K c/\RepL σ β c u/\∀w',(part t vs off).run P w'=.ok u w':=by
 unfold ldL at h;split at h
 .exact h.elim
 rename_i i z;have k:∀(j:Nat),∃u:Value,∀(l:LV),ls[j]?=some l->vs[j]?=some u/\RepL σ β l u:=fun j=>by
  cases m:ls[j]?with
  |none=>exact⟨undef,fun l h=>by cases h⟩
  |some l=>obtain⟨u,b,d⟩:=f j l m;exact⟨u,fun l' h=>by cases h;exact⟨b,d⟩⟩
 obtain⟨u,p⟩ : ∃u:Nat->Value,∀(j:Nat)(l:LV),ls[j]?=some l->vs[j]?=some (u j)/\RepL σ β l (u j):=⟨fun j=>(k j).choose,fun j=>(k j).choose_spec⟩;clear k;split at h
 .rename_i ha;obtain⟨e,n⟩:=NT h;have x:i.size=0\/off+i.size<=vs.size:=by
   by_cases q:i.size=0
   .exact .inl q
   .refine .inr ?_;simp only[x6c]at n;have:=(p (off+(i.size-1)) (ls[off+(i.size-1)]'(by omega)) (by simp)).1;have:=(x4t.1 this).1;omega
  refine⟨_,_,e,RepL.mkAgg (vs:=vs.extract off (off+i.size)) (fun j=>u (off+j)) (by simp only[Array.size_extract,x5z,x6c];simp only[x6c]at n;omega) (fun j c m=>?_) (fun j c m=>?_),fun w'=>(Tu (hT:=hT) z vs off w').1 ha⟩
  .rw [x5s]at m;split at m
   .rename_i g;have:=(p (off+j) c (by simpa using m)).1;rw[Array.getElem?_extract,if_pos (by omega)];exact this
   .cases m
  .rw [x5s]at m;split at m
   .exact (p (off+j) c (by simpa using m)).2
   .cases m
 .rename_i ha;split at h
  .rename_i c r v;have q:ls[off]?=some c:=by
    have:(ls.drop off)[0]?=some c:=by rw[v];rfl
    simpa using this
   exact⟨c,u off,h,(p off c q).2,fun w'=>(Tu (hT:=hT) z vs off w').2 ha _ (p off c q).1⟩
  .exact h.elim
def q8m{cs:List AV}{v:Value}(h:RepL σ β (.p (.agg cs)) v):∃vs,v=.agg vs/\vs.size=cs.length/\∀(j:Nat)(l:LV),(cs.map LV.p)[j]?=some l->∃u:Value,vs[j]?=some u/\RepL σ β l u:=by
 cases h with
 | p h=>cases h with
   | agg _ vs u n m hr=>
     refine⟨vs,rfl,n,fun j l i=>?_⟩;rw[x4q]at i;cases k:cs[j]?with
     |none=>rw[k]at i;cases i
     |some c=>rw[k]at i;cases i;exact⟨u j,m j c k,.p (hr j c k)⟩
def x2y{ls:List LV}{v:Value}(h:RepL σ β (.agg ls) v):∃vs,v=.agg vs/\vs.size=ls.length/\∀(j:Nat)(l:LV),ls[j]?=some l->∃u:Value,vs[j]?=some u/\RepL σ β l u:=by
 cases h with
 |agg _ vs u m k hr=>exact⟨vs,rfl,m,fun j l i=>⟨u j,k j l i,hr j l i⟩⟩
def Em(hT:TabOK P T){t:TypeId}{x:Operand}{f:Nat}(l:o.op=.field t x f)(h:HL P T hr s o K)(e:∀i,RepL σ β (getS s.sl i) (a.tmps.getD i undef)):Snd P hr σ β a w o K:=by
 simp only[HL,l]at h;split at h<;>first|exact h.elim|skip
 rename_i fs _ _ _ b;split at h<;>first|exact h.elim|skip
 rename_i d z;have m:=QX e x;split at h<;>first|exact h.elim|skip
 .rename_i cs q;rw[q]at m;obtain⟨vs,r,_,p⟩:=q8m m;have v:=Fk h;rw[List.map_drop]at v;obtain⟨c,u,⟨c',n,rfl⟩,j,k⟩:=Xm hT v p;exact .mk n j fun w' _ _=>by simp[execOp,l,Instr.field,run_underlying (hT.of b),z,r,asAgg,k]
 .rename_i ls q;rw[q]at m;obtain⟨vs,r,_,p⟩:=x2y m;obtain⟨c,u,n,j,k⟩:=Xm hT h p;exact .mk n j fun w' _ _=>by simp[execOp,l,Instr.field,run_underlying (hT.of b),z,r,asAgg,k]
def Lt{x:Operand}{i:Nat}(k:o.op=.extract x i)(h:HL P T hr s o K)(z:∀i,RepL σ β (getS s.sl i) (a.tmps.getD i undef)):Snd P hr σ β a w o K:=by
 simp only[HL,k]at h;have j:=QX z x;split at h<;>first|exact h.elim|skip
 .rename_i vs q;rw[q]at j;split at h<;>first|exact h.elim|skip
  rename_i v m;generalize r:a.eval x=y at j;cases j with
  | p j=>cases j with
    |tup _ b u t n l=>exact .mk h (.p (l i v m)) fun w' _ _=>by simp[execOp,k,r,Instr.extract,n i v m]
 .rename_i vs q;rw[q]at j;split at h<;>first|exact h.elim|skip
  rename_i v m;generalize r:a.eval x=y at j;cases j with
  |tup _ b u t n l=>exact .mk h (l i v m) fun w' _ _=>by simp[execOp,k,r,Instr.extract,n i v m]
end
def x6b:type_of%@IdxL.mk:=@IdxL.mk
def x9q:type_of%@RowK.mk:=@RowK.mk
def x9r:type_of%@SlK.mk:=@SlK.mk
def z1q:type_of%@LdOwn.mk:=@LdOwn.mk
def z1v:type_of%@RepL.hd:=@RepL.hd
end Go.Ab
