/- The table of the types that the program's text names. -/
import Derived.Test.YtlhblcpmfnkjpaaGreatChecked
import Derived.Test.YtlhblcpmfnkjpaaGreatDomA6
set_option linter.unusedSimpArgs false
set_option linter.unusedVariables false
set_option maxRecDepth 100000
set_option maxHeartbeats 16000000
open List (map_cons map_nil)
open Nat (beq)
namespace Go.Ab
open Go.Proofs
def ty0:TyI:=⟨Go.TypeDesc.tuple #[],1,0,(.tuple #[])⟩
def ty2:TyI:=⟨Go.TypeDesc.int (Go.IntKind.i64),1,8,(.int .i64 0)⟩
def ty3:TyI:=⟨Go.TypeDesc.int (Go.IntKind.i64),1,8,(.int .i64 0)⟩
def ty4:TyI:=⟨Go.TypeDesc.bool,1,1,(.bool false)⟩
def ty5:TyI:=⟨Go.TypeDesc.int (Go.IntKind.u8),1,1,(.int .u8 0)⟩
def ty9:TyI:=⟨Go.TypeDesc.string,1,16,(.string ByteArray.empty)⟩
def v6w:TyI:=⟨Go.TypeDesc.interface #[],1,16,.nilIface⟩
def v6j:TyI:=⟨Go.TypeDesc.slice 9,1,24,(.slice none 0 0)⟩
def v5e:TyI:=⟨Go.TypeDesc.slice 68,1,24,(.slice none 0 0)⟩
def v2a:TyI:=⟨Go.TypeDesc.struct #[{ name := "Globals",type:=22,offset:=0,embedded:=false,tag := "",pkgPath := "",byteOffset:=0 },{ name := "Procs",type:=23,offset:=1,embedded:=false,tag := "",pkgPath := "",byteOffset:=24 }],2,48,(.agg #[(.slice none 0 0),(.slice none 0 0)])⟩
def v5o:TyI:=⟨Go.TypeDesc.slice 36,1,24,(.slice none 0 0)⟩
def v3e:TyI:=⟨Go.TypeDesc.struct #[{ name := "Op",type:=3,offset:=0,embedded:=false,tag := "",pkgPath := "",byteOffset:=0 },{ name := "N",type:=2,offset:=1,embedded:=false,tag := "",pkgPath := "",byteOffset:=8 },{ name := "Name",type:=9,offset:=2,embedded:=false,tag := "",pkgPath := "",byteOffset:=16 },{ name := "Kids",type:=34,offset:=3,embedded:=false,tag := "",pkgPath := "",byteOffset:=32 }],4,56,(.agg #[(.int .i64 0),(.int .i64 0),(.string ByteArray.empty),(.slice none 0 0)])⟩
def v6v:TyI:=⟨Go.TypeDesc.slice 74,1,24,(.slice none 0 0)⟩
def v5l:TyI:=⟨Go.TypeDesc.slice 40,1,24,(.slice none 0 0)⟩
def v4t:TyI:=⟨Go.TypeDesc.struct #[{ name := "Id",type:=3,offset:=0,embedded:=false,tag := "",pkgPath := "",byteOffset:=0 },{ name := "Kind",type:=3,offset:=1,embedded:=false,tag := "",pkgPath := "",byteOffset:=8 },{ name := "Labels",type:=22,offset:=2,embedded:=false,tag := "",pkgPath := "",byteOffset:=16 },{ name := "Name",type:=9,offset:=3,embedded:=false,tag := "",pkgPath := "",byteOffset:=40 },{ name := "Proc",type:=9,offset:=4,embedded:=false,tag := "",pkgPath := "",byteOffset:=56 },{ name := "X",type:=36,offset:=5,embedded:=false,tag := "",pkgPath := "",byteOffset:=72 },{ name := "Has",type:=4,offset:=9,embedded:=false,tag := "",pkgPath := "",byteOffset:=128 },{ name := "Args",type:=37,offset:=10,embedded:=false,tag := "",pkgPath := "",byteOffset:=136 },{ name := "Then",type:=38,offset:=11,embedded:=false,tag := "",pkgPath := "",byteOffset:=160 },{ name := "Else",type:=38,offset:=12,embedded:=false,tag := "",pkgPath := "",byteOffset:=184 }],13,208,(.agg #[(.int .i64 0),(.int .i64 0),(.slice none 0 0),(.string ByteArray.empty),(.string ByteArray.empty),(.int .i64 0),(.int .i64 0),(.string ByteArray.empty),(.slice none 0 0),(.bool false),(.slice none 0 0),(.slice none 0 0),(.slice none 0 0)])⟩
def v6z:TyI:=⟨Go.TypeDesc.struct #[{ name := "S",type:=40,offset:=0,embedded:=false,tag := "",pkgPath := "",byteOffset:=0 },{ name := "Deep",type:=3,offset:=13,embedded:=false,tag := "",pkgPath := "",byteOffset:=208 },{ name := "In",type:=3,offset:=14,embedded:=false,tag := "",pkgPath := "",byteOffset:=216 },{ name := "Else",type:=4,offset:=15,embedded:=false,tag := "",pkgPath := "",byteOffset:=224 }],16,232,(.agg #[(.int .i64 0),(.int .i64 0),(.slice none 0 0),(.string ByteArray.empty),(.string ByteArray.empty),(.int .i64 0),(.int .i64 0),(.string ByteArray.empty),(.slice none 0 0),(.bool false),(.slice none 0 0),(.slice none 0 0),(.slice none 0 0),(.int .i64 0),(.int .i64 0),(.bool false)])⟩
def v6k:TyI:=⟨Go.TypeDesc.slice 60,1,24,(.slice none 0 0)⟩
def v6f:TyI:=⟨Go.TypeDesc.slice 3,1,24,(.slice none 0 0)⟩
def v6x:TyI:=⟨Go.TypeDesc.slice 72,1,24,(.slice none 0 0)⟩
def v3r:TyI:=⟨Go.TypeDesc.struct #[{ name := "Name",type:=9,offset:=0,embedded:=false,tag := "",pkgPath := "",byteOffset:=0 },{ name := "Params",type:=66,offset:=1,embedded:=false,tag := "",pkgPath := "",byteOffset:=16 },{ name := "Vars",type:=22,offset:=2,embedded:=false,tag := "",pkgPath := "",byteOffset:=40 },{ name := "Body",type:=38,offset:=3,embedded:=false,tag := "",pkgPath := "",byteOffset:=64 },{ name := "End",type:=22,offset:=4,embedded:=false,tag := "",pkgPath := "",byteOffset:=88 }],5,112,(.agg #[(.string ByteArray.empty),(.slice none 0 0),(.slice none 0 0),(.slice none 0 0),(.slice none 0 0)])⟩
def v6h:TyI:=⟨Go.TypeDesc.tuple #[68,4],1,0,(.tuple #[(.agg #[(.string ByteArray.empty),(.slice none 0 0),(.slice none 0 0),(.slice none 0 0),(.slice none 0 0)]),(.bool false)])⟩
def v4w:TyI:=⟨Go.TypeDesc.struct #[{ name := "Name",type:=9,offset:=0,embedded:=false,tag := "",pkgPath := "",byteOffset:=0 },{ name := "Ref",type:=4,offset:=1,embedded:=false,tag := "",pkgPath := "",byteOffset:=16 }],2,24,(.agg #[(.string ByteArray.empty),(.bool false)])⟩
def v3m:TyI:=⟨Go.TypeDesc.struct #[{ name := "Ref",type:=4,offset:=0,embedded:=false,tag := "",pkgPath := "",byteOffset:=0 },{ name := "Name",type:=9,offset:=1,embedded:=false,tag := "",pkgPath := "",byteOffset:=8 },{ name := "X",type:=36,offset:=2,embedded:=false,tag := "",pkgPath := "",byteOffset:=24 }],6,80,(.agg #[(.bool false),(.string ByteArray.empty),(.int .i64 0),(.int .i64 0),(.string ByteArray.empty),(.slice none 0 0)])⟩
def v6d:TyI:=⟨Go.TypeDesc.tuple #[3,4],1,0,(.tuple #[(.int .i64 0),(.bool false)])⟩
def v5t:TyI:=⟨Go.TypeDesc.slice 150,1,24,(.slice none 0 0)⟩
def v6u:TyI:=⟨Go.TypeDesc.slice 156,1,24,(.slice none 0 0)⟩
def v5p:TyI:=⟨Go.TypeDesc.slice 42,1,24,(.slice none 0 0)⟩
def v5q:TyI:=⟨Go.TypeDesc.tuple #[3,3],1,0,(.tuple #[(.int .i64 0),(.int .i64 0)])⟩
def v4k:TyI:=⟨Go.TypeDesc.int (Go.IntKind.i64),1,8,(.int .i64 0)⟩
def v4a:TyI:=⟨Go.TypeDesc.func #[3,3] #[3] false,1,8,.nilFunc⟩
def v3y:TyI:=⟨Go.TypeDesc.struct #[{ name := "Code",type:=108,offset:=0,embedded:=false,tag := "",pkgPath := "",byteOffset:=0 },{ name := "At",type:=3,offset:=1,embedded:=false,tag := "",pkgPath := "",byteOffset:=8 }],2,16,(.agg #[(.int .i64 0),(.int .i64 0)])⟩
def v3f:TyI:=⟨Go.TypeDesc.pointer 181,1,8,(.pointer none)⟩
def v3g:TyI:=⟨Go.TypeDesc.pointer 139,1,8,(.pointer none)⟩
def v4d:TyI:=⟨Go.TypeDesc.slice 4,1,24,(.slice none 0 0)⟩
def v4b:TyI:=⟨Go.TypeDesc.struct #[{ name := "S",type:=122,offset:=0,embedded:=false,tag := "",pkgPath := "",byteOffset:=0 },{ name := "Proc",type:=3,offset:=1,embedded:=false,tag := "",pkgPath := "",byteOffset:=8 },{ name := "N",type:=3,offset:=2,embedded:=false,tag := "",pkgPath := "",byteOffset:=16 },{ name := "Real",type:=85,offset:=3,embedded:=false,tag := "",pkgPath := "",byteOffset:=24 },{ name := "Live",type:=137,offset:=4,embedded:=false,tag := "",pkgPath := "",byteOffset:=48 }],5,72,(.agg #[(.pointer none),(.int .i64 0),(.int .i64 0),(.slice none 0 0),(.slice none 0 0)])⟩
def v4p:TyI:=⟨Go.TypeDesc.slice 137,1,24,(.slice none 0 0)⟩
def v2o:TyI:=⟨Go.TypeDesc.array 2 3,2,16,(.agg #[(.int .i64 0),(.int .i64 0)])⟩
def v4c:TyI:=⟨Go.TypeDesc.struct #[{ name := "From",type:=3,offset:=0,embedded:=false,tag := "",pkgPath := "",byteOffset:=0 },{ name := "To",type:=3,offset:=1,embedded:=false,tag := "",pkgPath := "",byteOffset:=8 },{ name := "Kind",type:=3,offset:=2,embedded:=false,tag := "",pkgPath := "",byteOffset:=16 }],3,24,(.agg #[(.int .i64 0),(.int .i64 0),(.int .i64 0)])⟩
def v3h:TyI:=⟨Go.TypeDesc.struct #[{ name := "S",type:=40,offset:=0,embedded:=false,tag := "",pkgPath := "",byteOffset:=0 },{ name := "Proc",type:=3,offset:=13,embedded:=false,tag := "",pkgPath := "",byteOffset:=208 },{ name := "Up",type:=3,offset:=14,embedded:=false,tag := "",pkgPath := "",byteOffset:=216 },{ name := "Next",type:=3,offset:=15,embedded:=false,tag := "",pkgPath := "",byteOffset:=224 },{ name := "Loop",type:=3,offset:=16,embedded:=false,tag := "",pkgPath := "",byteOffset:=232 }],17,240,(.agg #[(.int .i64 0),(.int .i64 0),(.slice none 0 0),(.string ByteArray.empty),(.string ByteArray.empty),(.int .i64 0),(.int .i64 0),(.string ByteArray.empty),(.slice none 0 0),(.bool false),(.slice none 0 0),(.slice none 0 0),(.slice none 0 0),(.int .i64 0),(.int .i64 0),(.int .i64 0),(.int .i64 0)])⟩
def v3a:TyI:=⟨Go.TypeDesc.slice 177,1,24,(.slice none 0 0)⟩
def v4y:TyI:=⟨Go.TypeDesc.struct #[{ name := "P",type:=25,offset:=0,embedded:=false,tag := "",pkgPath := "",byteOffset:=0 },{ name := "L",type:=179,offset:=2,embedded:=false,tag := "",pkgPath := "",byteOffset:=48 },{ name := "Lo",type:=60,offset:=3,embedded:=false,tag := "",pkgPath := "",byteOffset:=72 },{ name := "Hi",type:=60,offset:=4,embedded:=false,tag := "",pkgPath := "",byteOffset:=96 }],5,120,(.agg #[(.slice none 0 0),(.slice none 0 0),(.slice none 0 0),(.slice none 0 0),(.slice none 0 0)])⟩
def v4j:TyI:=⟨Go.TypeDesc.func #[68] #[4] false,1,8,.nilFunc⟩
def v4e:TyI:=⟨Go.TypeDesc.struct #[{ name := "L",type:=95,offset:=0,embedded:=false,tag := "",pkgPath := "",byteOffset:=0 },{ name := "End",type:=22,offset:=1,embedded:=false,tag := "",pkgPath := "",byteOffset:=24 }],2,48,(.agg #[(.slice none 0 0),(.slice none 0 0)])⟩
def v3i:TyI:=⟨Go.TypeDesc.tuple #[197,4],1,0,(.tuple #[(.agg #[(.slice none 0 0),(.slice none 0 0)]),(.bool false)])⟩
def v3k:TyI:=⟨Go.TypeDesc.func #[9] #[4] false,1,8,.nilFunc⟩
def v4o:TyI:=⟨Go.TypeDesc.pointer 271,1,8,(.pointer none)⟩
def v4i:TyI:=⟨Go.TypeDesc.int (Go.IntKind.u64),1,8,(.int .u64 0)⟩
def v4n:TyI:=⟨Go.TypeDesc.tuple #[95,4],1,0,(.tuple #[(.slice none 0 0),(.bool false)])⟩
def v3s:TyI:=⟨Go.TypeDesc.pointer 250,1,8,(.pointer none)⟩
def v4l:TyI:=⟨Go.TypeDesc.struct #[{ name := "seen",type:=3,offset:=0,embedded:=false,tag := "",pkgPath := "whittler/tree",byteOffset:=0 }],1,8,(.agg #[(.int .i64 0)])⟩
def v3p:TyI:=⟨Go.TypeDesc.tuple #[22,4],1,0,(.tuple #[(.slice none 0 0),(.bool false)])⟩
def v3n:TyI:=⟨Go.TypeDesc.map 9 22,1,8,(.map none)⟩
def v3v:TyI:=⟨Go.TypeDesc.struct #[{ name := "next",type:=47,offset:=0,embedded:=false,tag := "",pkgPath := "whittler/graph",byteOffset:=0 },{ name := "prev",type:=47,offset:=1,embedded:=false,tag := "",pkgPath := "whittler/graph",byteOffset:=24 }],2,48,(.agg #[(.slice none 0 0),(.slice none 0 0)])⟩
def v3w:TyI:=⟨Go.TypeDesc.int (Go.IntKind.i64),1,8,(.int .i64 0)⟩
def v4x:TyI:=⟨Go.TypeDesc.tuple #[3,275],1,0,(.tuple #[(.int .i64 0),(.int .i64 0)])⟩
def v2e:TyI:=⟨Go.TypeDesc.int (Go.IntKind.u64),1,8,(.int .u64 0)⟩
def v3c:TyI:=⟨Go.TypeDesc.func #[156,156] #[4] false,1,8,.nilFunc⟩
def v3t:TyI:=⟨Go.TypeDesc.func #[156,156] #[3] false,1,8,.nilFunc⟩
def v4m:TyI:=⟨Go.TypeDesc.int (Go.IntKind.u64),1,8,(.int .u64 0)⟩
def v4h:TyI:=⟨Go.TypeDesc.pointer 3,1,8,(.pointer none)⟩
def v3l:TyI:=⟨Go.TypeDesc.pointer 315,1,8,(.pointer none)⟩
def tab:Tab:=[(0,ty0),(2,ty2),(3,ty3),(4,ty4),(5,ty5),(9,ty9),(20,v6w),(22,v6j),(23,v5e),(25,v2a),(34,v5o),(36,v3e),(37,v6v),(38,v5l),(40,v4t),(42,v6z),(47,v6k),(60,v6f),(66,v6x),(68,v3r),(69,v6h),(72,v4w),(74,v3m),(77,v6d),(81,v5t),(85,v6u),(95,v5p),(101,v5q),(108,v4k),(111,v4a),(117,v3y),(122,v3f),(135,v3g),(137,v4d),(139,v4b),(146,v4p),(150,v2o),(156,v4c),(177,v3h),(179,v3a),(181,v4y),(192,v4j),(197,v4e),(198,v3i),(202,v3k),(208,v4o),(213,v4i),(214,v4n),(248,v3s),(250,v4l),(257,v3p),(260,v3n),(271,v3v),(275,v3w),(276,v4x),(285,v2e),(290,v3c),(313,v3t),(315,v4m),(319,v4h),(340,v3l)]
theorem QX:TabOK Tryz.prog tab:=by
 repeat refine TabOK.cons (by kernel_rfl) (by kernel_rfl) ?_
 exact TabOK.nil _
theorem mixed:Tryz.prog.follows .mixedOrders=true:=by kernel_rfl
def QP (t:List (Nat×List Nat)) (i:Nat):List Nat :=
 match t with
 | []=>[]
 | (j,l)::r=>bif beq j i then l else QP r i
def QZ (t:List (Nat×List (List Nat))) (i:Nat):List (List Nat) :=
 match t with
 | []=>[]
 | (j,l)::r=>bif beq j i then l else QZ r i
def QW (t:List (Nat×Sched)) (i:Nat):Sched :=
 match t with
 | [] => .nil
 | (j,l)::r=>bif beq j i then l else QW r i
def DO:Info:=⟨QP [(12,[6]),(11,[6]),(10,[2,3,7,8,59]),(9,[2,3,7,8,9,10]),(8,[2,3,7,8]),(7,[2,3,7]),(6,[6]),(5,[1,2,3,22]),(4,[6]),(3,[1,2,3,15]),(2,[6]),(1,[1,2,3,12]),(0,[1,2,3])],QW [(12,(.cons 0 true (.cons 1 true (.cons 2 true (.cons 4 false (.cons 3 true (.cons 5 true (.cons 6 true (.cons 7 true (.cons 8 true (.cons 10 false (.cons 11 false (.cons 9 true (.cons 12 true (.cons 13 true (.cons 14 true (.cons 15 true .nil)))))))))))))))))],QZ [(0,[[3]])]⟩
def MI:Info:=⟨QP [(12,[2]),(4,[1,3,4]),(11,[1,3,4]),(9,[1,3,4,5,6]),(10,[1,3,4,5,6]),(8,[1,3,4,5,6,44]),(7,[1,3,4,5,6]),(6,[1,3,4,5]),(5,[1,3,4,5]),(3,[1,3,4,18]),(2,[1,3,4]),(1,[1,3]),(0,[1])],QW [(6,(.cons 4 true (.cons 5 true (.cons 6 true (.cons 0 false (.cons 1 false (.cons 2 false (.cons 3 false (.cons 7 true (.cons 8 true (.cons 9 true (.cons 10 true .nil))))))))))))],QZ [(0,[[1]]),(5,[[5]])]⟩
def z0p:Info:=⟨QP [(1,[2]),(0,[1])],QW [],QZ [(0,[[1]])]⟩
def x7x:Info:=⟨QP [(7,[2]),(6,[3,7,8,9]),(5,[3,7,8,9]),(4,[3,5,7,8,9]),(3,[3,7,8,9,10]),(2,[3,7,8,9]),(1,[1,3]),(0,[1])],QW [],QZ [(0,[[1]]),(4,[[5]])]⟩
def BW:Info:=⟨QP [(3,[4]),(2,[4]),(1,[1,2,8]),(0,[1,2])],QW [(3,(.cons 2 true (.cons 3 true (.cons 4 true (.cons 5 true (.cons 0 false (.cons 1 false (.cons 6 true (.cons 7 true (.cons 8 true (.cons 9 true (.cons 10 true .nil))))))))))))],QZ [(0,[[2]])]⟩
def x1u:Info:=⟨QP [(1,[2]),(0,[1])],QW [],QZ [(0,[[1]])]⟩
def q4z:Info:=⟨QP [(7,[4]),(6,[0,1,7,8]),(5,[4]),(4,[0,1,7,8,16]),(3,[0,1,5,7,8]),(2,[0,1,7,8,9]),(1,[0,1,7,8]),(0,[0,1])],QW [],QZ []⟩
def LZ:Info:=⟨QP [(8,[4,5]),(7,[1,4,11,12,13]),(6,[4,5]),(5,[1,4,7,11,12,13,20]),(4,[1,4,7,11,12,13]),(3,[1,4,11,12,13,14]),(2,[1,4,11,12,13]),(1,[1,2,4,9]),(0,[1,2,4])],QW [],QZ [(0,[[2]]),(4,[[7]])]⟩
def LC:Info:=⟨QP [(12,[2]),(11,[3,25,26,27]),(10,[3,25,26,27]),(9,[3,5,25,26,27]),(8,[3,5,25,26,27,32]),(7,[3,5,25,26,27]),(6,[3,25,26,27,28]),(5,[3,25,26,27]),(4,[1,3]),(3,[1,3]),(2,[1,3,13]),(1,[1,3]),(0,[1])],QW [],QZ [(0,[[1]]),(7,[[5]])]⟩
def GL:Info:=⟨QP [(4,[0]),(3,[1,2,3,4]),(2,[1,2]),(1,[1]),(0,[])],QW [],QZ [(1,[[1]])]⟩
def BX:Info:=⟨QP [(4,[6]),(3,[6]),(2,[1,2,3,7,14]),(1,[1,2,3,7]),(0,[1,2,3])],QW [],QZ [(0,[[3]])]⟩
def z8x:Info:=⟨QP [(4,[6,7]),(3,[6,7]),(2,[8,15]),(1,[8]),(0,[1,2,3])],QW [],QZ [(0,[[3]])]⟩
def DE:Info:=⟨QP [(9,[4]),(8,[0,1,12,13]),(7,[4]),(6,[0,1,12,13,24]),(5,[0,1,5,12,13]),(4,[0,1,12,13,14]),(3,[0,1,12,13]),(2,[4]),(1,[0,1,10]),(0,[0,1])],QW [(6,(.cons 0 true (.cons 1 true (.cons 2 true (.cons 3 true (.cons 4 true (.cons 5 true (.cons 6 true (.cons 7 true (.cons 8 true .nil))))))))))],QZ []⟩
def w6x:Info:=⟨QP [(4,[6]),(3,[6]),(2,[2,7,18]),(1,[2,7]),(0,[1,2,3])],QW [],QZ [(0,[[3]])]⟩
def FC:Info:=⟨QP [(9,[4]),(8,[0,1,12,13]),(7,[4]),(6,[0,1,12,13,24]),(5,[0,1,5,12,13]),(4,[0,1,12,13,14]),(3,[0,1,12,13]),(2,[4]),(1,[0,1,10]),(0,[0,1])],QW [(6,(.cons 0 true (.cons 1 true (.cons 2 true (.cons 3 true (.cons 4 true (.cons 5 true (.cons 6 true (.cons 7 true (.cons 8 true .nil))))))))))],QZ []⟩
def z8k:Info:=⟨QP [(10,[4]),(8,[5,6,7,8]),(9,[5,6,7,8]),(7,[5,6,7,8,22]),(6,[5,6,7,8]),(5,[5,6,7]),(4,[5,6]),(3,[4]),(2,[5,13]),(1,[5]),(0,[1,2])],QW [],QZ [(0,[[2]])]⟩
def MH:Info:=⟨QP [(10,[4]),(9,[5,6,7,18,19,20]),(8,[5,6,7,18,19,20]),(7,[5,6,7,9,18,19,20,25]),(6,[5,6,7,9,18,19,20]),(5,[5,6,7,18,19,20,21]),(4,[5,6,7,18,19,20]),(3,[5,6,7]),(2,[5,6]),(1,[1,2,5]),(0,[1,2])],QW [],QZ [(0,[[2]])]⟩
def q0o:Info:=⟨QP [(9,[2]),(8,[3,7,8,9]),(7,[2]),(6,[3,7,8,9,19]),(5,[3,7,8,9]),(4,[3,5,7,8,9]),(3,[3,7,8,9,10]),(2,[3,7,8,9]),(1,[1,3]),(0,[1])],QW [],QZ [(0,[[1]]),(4,[[5]])]⟩
def q3j:Info:=⟨QP [(6,[4]),(5,[4]),(4,[0,1,11]),(3,[0,1]),(2,[4]),(1,[0,1,6]),(0,[0,1])],QW [],QZ []⟩
def LT:Info:=⟨QP [(3,[0]),(2,[0,1,2]),(1,[0,1]),(0,[0])],QW [],QZ [(1,[[1]]),(2,[[2]])]⟩
def GH:Info:=⟨QP [(5,[4]),(3,[0,1,5]),(4,[0,1,5]),(2,[0,1,5,13]),(1,[0,1,5]),(0,[0,1])],QW [],QZ []⟩
def HZ:Info:=⟨QP [(3,[4]),(2,[4]),(1,[0,1,13]),(0,[0,1])],QW [],QZ []⟩
def GT:Info:=⟨QP [(11,[4]),(3,[0,1,5]),(10,[0,1,5]),(8,[0,1,5,6,7]),(9,[0,1,5,6,7]),(7,[0,1,5,6,7,43]),(6,[0,1,5,6,7]),(5,[0,1,5,6]),(4,[0,1,5,6]),(2,[0,1,5,15]),(1,[0,1,5]),(0,[0,1])],QW [(5,(.cons 6 true (.cons 7 true (.cons 8 true (.cons 0 false (.cons 1 false (.cons 2 false (.cons 3 false (.cons 4 false (.cons 5 false (.cons 9 true (.cons 10 true (.cons 11 true (.cons 12 true (.cons 13 true .nil))))))))))))))),(9,(.cons 6 true (.cons 7 true (.cons 8 true (.cons 9 true (.cons 10 true (.cons 11 true (.cons 12 true (.cons 0 false (.cons 1 false (.cons 2 false (.cons 3 false (.cons 4 false (.cons 5 false (.cons 13 true (.cons 14 true (.cons 15 true .nil))))))))))))))))),(10,(.cons 2 true (.cons 3 true (.cons 4 true (.cons 0 false (.cons 1 false (.cons 5 true (.cons 6 true (.cons 7 true .nil)))))))))],QZ [(4,[[6]])]⟩
def z1t:Info:=⟨QP [(10,[2]),(9,[2,3]),(8,[1,2,3,22]),(7,[1,2,3]),(6,[1,2,3,17]),(5,[1,2,3]),(4,[1,2,3,12]),(3,[1,2,3]),(2,[2]),(1,[1,2,6]),(0,[1,2])],QW [],QZ [(0,[[1]])]⟩
def x9r:Info:=⟨QP [(7,[2]),(6,[0,3,8,9]),(5,[0,3,8,9]),(4,[0,3,4,8,9]),(3,[0,3,8,9,10]),(2,[0,3,8,9]),(1,[0,3]),(0,[0])],QW [(5,(.cons 1 true (.cons 2 true (.cons 3 true (.cons 4 true (.cons 5 true (.cons 0 false (.cons 7 false (.cons 8 false (.cons 9 false (.cons 10 false (.cons 11 false (.cons 6 true (.cons 12 true (.cons 13 true (.cons 14 true (.cons 15 true .nil)))))))))))))))))],QZ []⟩
def q4b:Info:=⟨QP [(1,[4]),(0,[0,3])],QW [],QZ [(0,[[3]])]⟩
def NS:Info:=⟨QP [(1,[2]),(0,[1])],QW [],QZ [(0,[[1]])]⟩
def q0f:Info:=⟨QP [(1,[2]),(0,[1])],QW [],QZ [(0,[[1]])]⟩
def BT:Info:=⟨QP [(14,[2]),(13,[0,3,9,10]),(12,[0,3,9,10]),(11,[0,3,4,9,10,33]),(10,[0,3,4,5,9,10,12,13,14]),(9,[0,3,4,5,9,10,12,13,14]),(8,[0,3,4,5,7,9,10,12,13,14,30]),(7,[0,3,4,5,7,9,10,12,13,14]),(6,[0,3,4,5,9,10,12,13,14,15]),(5,[0,3,4,5,9,10,12,13,14]),(4,[0,3,4,5,9,10]),(3,[0,3,9,10,11]),(2,[0,3,9,10]),(1,[0,3]),(0,[0])],QW [],QZ []⟩
def MD:Info:=⟨QP [(3,[2]),(2,[2]),(1,[1,5]),(0,[1])],QW [],QZ [(0,[[1]])]⟩
def q8k:Info:=⟨QP [(16,[4]),(15,[1,49,50,51]),(14,[4]),(13,[1,49,50,51,59]),(12,[1,6,49,50,51]),(11,[1,49,50,51,52]),(10,[1,49,50,51]),(9,[4]),(8,[1,2,47]),(5,[4]),(7,[4]),(6,[1,2,30]),(4,[1,2,19,20]),(3,[1,2,19]),(2,[4]),(1,[1,2,17]),(0,[1,2])],QW [(1,(.cons 0 true (.cons 1 true (.cons 2 true (.cons 6 true (.cons 7 true (.cons 3 false (.cons 4 false (.cons 5 false (.cons 8 true (.cons 9 true (.cons 10 true .nil))))))))))))],QZ [(0,[[2]]),(12,[[6]])]⟩
def LD:Info:=⟨QP [(7,[4]),(6,[1,7,8,9]),(5,[4]),(4,[1,7,8,9,15]),(3,[1,6,7,8,9]),(2,[1,7,8,9,10]),(1,[1,7,8,9]),(0,[0,1])],QW [],QZ []⟩
def w4q:Info:=⟨QP [(6,[4]),(5,[4]),(4,[1,5,14]),(3,[1,5]),(2,[4]),(1,[1,2,8]),(0,[1,2])],QW [],QZ [(0,[[2]])]⟩
def q8e:Info:=⟨QP [(6,[4]),(3,[4]),(5,[4]),(4,[0,1,8]),(2,[0,1,5,6]),(1,[0,1,5]),(0,[0,1])],QW [(6,(.cons 0 true (.cons 1 true (.cons 2 true (.cons 3 true (.cons 4 true (.cons 5 true (.cons 6 true (.cons 7 true (.cons 8 true (.cons 9 true (.cons 10 true (.cons 11 true (.cons 12 true (.cons 13 true (.cons 14 true (.cons 15 true (.cons 16 true .nil))))))))))))))))))],QZ []⟩
def q1m:Info:=⟨QP [(24,[2]),(23,[7,79,80]),(22,[2]),(21,[7,79,80,108]),(20,[7,8,79,80]),(19,[7,79,80,81]),(18,[7,79,80]),(17,[2]),(16,[7,77]),(15,[7]),(14,[1,26,27,28]),(13,[1,26,27,28,61,62,63]),(12,[2]),(11,[1,26,27,28,61,62,63,70]),(10,[1,6,26,27,28,61,62,63]),(9,[1,26,27,28,61,62,63,64]),(8,[1,26,27,28,61,62,63]),(7,[2]),(6,[1,4,26,27,28,59]),(5,[1,4,26,27,28]),(4,[1,26,27,28,29]),(3,[1,26,27,28]),(2,[2]),(1,[1,24]),(0,[1])],QW [],QZ [(0,[[1]]),(5,[[4]]),(10,[[6]])]⟩
def z6e:Info:=⟨QP [(9,[2]),(8,[3,10,11,12]),(7,[3,10,11,12]),(6,[3,10,11,12]),(5,[3,4,5,10,11,12]),(4,[3,4,5,10,11,12]),(3,[3,10,11,12,13]),(2,[3,10,11,12]),(1,[1,3]),(0,[1])],QW [(5,(.cons 5 true (.cons 6 true (.cons 7 true (.cons 8 true (.cons 9 true (.cons 10 true (.cons 0 false (.cons 1 false (.cons 2 false (.cons 3 false (.fork 4 (.cons 11 true (.cons 12 true (.cons 13 true (.cons 14 true (.cons 15 true .nil))))) 11 (.cons 4 true (.cons 12 true (.cons 13 true (.cons 14 true (.cons 15 true .nil))))))))))))))))),(7,(.cons 5 true (.cons 6 true (.cons 7 true (.cons 8 true (.cons 9 true (.cons 10 true (.cons 0 false (.cons 1 false (.cons 2 false (.cons 3 false (.fork 4 (.cons 11 true (.cons 12 true (.cons 13 true (.cons 14 true (.cons 15 true .nil))))) 11 (.cons 4 true (.cons 12 true (.cons 13 true (.cons 14 true (.cons 15 true .nil)))))))))))))))))],QZ [(0,[[1]]),(4,[[5]])]⟩
def UD:Info:=⟨QP [(1,[4]),(0,[0,1])],QW [],QZ []⟩
def w0v:Info:=⟨QP [(8,[4]),(7,[5,46,47,48]),(6,[5,46,47,48]),(5,[5,7,46,47,48]),(4,[5,46,47,48,49]),(3,[5,46,47,48]),(2,[5]),(1,[5]),(0,[0,1])],QW [(1,(.cons 18 true (.cons 19 true (.cons 0 false (.cons 1 false (.cons 2 false (.cons 3 false (.cons 4 false (.cons 5 false (.cons 6 false (.cons 7 false (.cons 8 false (.cons 9 false (.cons 10 false (.cons 11 false (.cons 12 false (.cons 13 false (.cons 14 false (.cons 15 false (.cons 16 false (.cons 17 false (.cons 20 true (.cons 21 true (.cons 22 true (.cons 23 true .nil)))))))))))))))))))))))))],QZ []⟩
def UN:Info:=⟨QP [(10,[4]),(9,[7,19,20,21]),(8,[7,19,20,21]),(7,[7,9,19,20,21]),(6,[7,19,20,21,22]),(5,[7,19,20,21]),(4,[5,7]),(3,[4]),(2,[5,17]),(1,[5,6]),(0,[1,2])],QW [],QZ [(0,[[2]]),(7,[[9]])]⟩
def q0q:Info:=⟨QP [(7,[4]),(6,[1,7,8,9]),(5,[4]),(4,[1,7,8,9,15]),(3,[1,6,7,8,9]),(2,[1,7,8,9,10]),(1,[1,7,8,9]),(0,[0,1])],QW [],QZ []⟩
def GP:Info:=⟨QP [(20,[6]),(19,[0,1,7,8,9,25,26]),(18,[0,1,7,8,9,25,26,29,30]),(17,[0,1,7,8,9,25,26]),(16,[0,1,7,8,9,10,25,26,29,30,79]),(15,[0,1,7,8,9,10,11,25,26,29,30,48,49]),(14,[0,1,7,8,9,10,11,25,26,29,30,48,49]),(13,[0,1,7,8,9,10,11,12,25,26,29,30,48,49]),(12,[0,1,7,8,9,10,11,25,26,29,30,48,49,50]),(11,[0,1,7,8,9,10,11,25,26,29,30,48,49]),(10,[0,1,7,8,9,10,11,25,26,29,30]),(9,[0,1,7,8,9,10,25,26,29,30]),(8,[0,1,7,8,9,25,26,29,30,31]),(7,[0,1,7,8,9,25,26,29,30]),(6,[0,1,7,8,9,25,26,27]),(5,[0,1,7,8,9,25,26]),(4,[0,1,7,8,9]),(3,[0,1,7,8,9]),(2,[0,1,7,8]),(1,[0,1,2,7]),(0,[0,1,2])],QW [],QZ []⟩
def BQ:Info:=⟨QP [(13,[4]),(12,[0,1,5,11,12,13]),(11,[0,1,5,11,12,13]),(10,[0,1,5,7,8,11,12,13,17,18,19]),(9,[0,1,5,7,8,11,12,13,17,18,19]),(8,[0,1,5,7,8,10,11,12,13,17,18,19]),(7,[0,1,5,7,8,11,12,13,17,18,19,20]),(6,[0,1,5,7,8,11,12,13,17,18,19]),(5,[0,1,5,7,8,11,12,13]),(4,[0,1,5,7,11,12,13]),(3,[0,1,5,11,12,13,14]),(2,[0,1,5,11,12,13]),(1,[0,1,5]),(0,[0,1])],QW [],QZ []⟩
def LU:Info:=⟨QP [(12,[4]),(11,[5,7,8,28,29,30]),(10,[5,7,8,28,29,30]),(9,[5,7,8,10,28,29,30,37]),(8,[5,7,8,10,28,29,30]),(7,[5,7,8,28,29,30,31]),(6,[5,7,8,28,29,30]),(5,[5,7,8]),(4,[5,7]),(3,[4]),(2,[5,18]),(1,[5,6]),(0,[1,2])],QW [(10,(.cons 4 true (.cons 5 true (.cons 6 true (.cons 7 true (.cons 8 true (.cons 0 false (.cons 1 false (.cons 2 false (.cons 3 false (.cons 9 true (.cons 10 true (.cons 11 true (.cons 12 true (.cons 13 true .nil)))))))))))))))],QZ [(0,[[2]]),(1,[[5]]),(8,[[10]])]⟩
def BC:Info:=⟨QP [(7,[4]),(2,[4]),(4,[4]),(6,[4]),(5,[0,1,16]),(3,[0,1,8]),(1,[0,1,5]),(0,[0,1])],QW [(5,(.cons 0 true (.cons 1 true (.cons 2 true (.cons 3 true (.cons 4 true (.cons 5 true (.cons 6 true (.cons 7 true (.cons 8 true (.cons 9 true (.cons 10 true (.cons 11 true (.cons 12 true (.cons 13 true (.cons 14 true (.cons 15 true (.cons 16 true (.cons 17 true (.cons 18 true (.cons 19 true (.cons 20 true (.cons 21 true (.cons 22 true (.cons 23 true (.cons 24 true (.cons 25 true (.cons 26 true (.cons 27 true (.cons 28 true (.cons 29 true (.cons 30 true (.cons 31 true (.cons 32 true .nil)))))))))))))))))))))))))))))))))),(6,(.cons 0 true (.cons 1 true (.cons 2 true (.cons 3 true (.cons 4 true (.cons 5 true (.cons 6 true (.cons 7 true (.cons 8 true (.cons 9 true (.cons 10 true (.cons 11 true (.cons 12 true (.cons 13 true (.cons 14 true (.cons 15 true (.cons 16 true .nil))))))))))))))))))],QZ []⟩
def x5p:Info:=⟨QP [(16,[6]),(15,[0,7,45,46,47]),(14,[0,7,45,46,47]),(13,[0,7,11,12,45,46,47]),(12,[0,7,45,46,47,48]),(11,[0,7,45,46,47]),(10,[0,7]),(9,[0,1,7,8,21,22,23]),(8,[0,1,7,8,21,22,23]),(7,[0,1,7,8,9,21,22,23]),(6,[0,1,7,8,9,21,22,23,28]),(5,[0,1,7,8,9,10,21,22,23]),(4,[0,1,7,8,21,22,23,24]),(3,[0,1,7,8,21,22,23]),(2,[0,1,2,7,8]),(1,[0,1,2,7]),(0,[0,1,2])],QW [(8,(.cons 2 true (.cons 3 true (.cons 4 true (.cons 5 true (.cons 0 false (.cons 1 false (.cons 6 true (.cons 7 true (.cons 8 true .nil))))))))))],QZ [(2,[[8]])]⟩
def q6n:Info:=⟨QP [(28,[2]),(23,[0,3,6,9,10]),(27,[0,3,6,9,10]),(26,[0,3,6,9,10,11,111]),(25,[0,3,6,9,10,11]),(24,[0,3,6,9,10,11]),(22,[0,3,6,9,10,93]),(21,[0,3,6,9,10]),(20,[0,3,6,9]),(19,[0,3,6,86]),(18,[0,3,6,9]),(17,[0,3,6,46,47]),(16,[0,3,6,7,46,47,62,63]),(15,[0,3,6,7,46,47,62,63]),(14,[0,3,6,7,8,46,47,62,63]),(13,[0,3,6,7,46,47,62,63,64]),(12,[0,3,6,7,46,47,62,63]),(11,[0,3,6,7,46,47]),(10,[0,3,6,7,46,47]),(9,[0,3,6,46,47,48]),(8,[0,3,6,46,47]),(7,[0,3,6]),(6,[0,3,20,21,22]),(5,[0,3,20,21,22]),(4,[0,3,5,20,21,22]),(3,[0,3,20,21,22,23]),(2,[0,3,20,21,22]),(1,[0,3]),(0,[0])],QW [(5,(.cons 8 true (.cons 9 true (.cons 0 false (.cons 1 false (.cons 2 false (.cons 3 false (.cons 4 false (.cons 5 false (.cons 6 false (.cons 7 false (.cons 10 true (.cons 11 true (.cons 12 true (.cons 13 true .nil))))))))))))))),(15,(.cons 0 true (.cons 1 true (.cons 2 true (.cons 3 true (.cons 4 true (.cons 5 true (.cons 6 true (.cons 7 true (.cons 8 true (.cons 9 true (.cons 10 true (.cons 11 true (.cons 12 true (.cons 13 true (.cons 14 true (.cons 15 true (.cons 16 true (.cons 17 true (.cons 18 true .nil))))))))))))))))))))],QZ [(4,[[5]])]⟩
def q9l:Info:=⟨QP [(24,[2]),(23,[0,3,4,7,69,70]),(22,[0,3,4,7,69,70]),(21,[0,3,4,7,8,9,69,70,86,87]),(20,[0,3,4,7,8,9,69,70,86,87]),(19,[0,3,4,7,8,9,10,69,70,86,87,95]),(18,[0,3,4,7,8,9,10,69,70,86,87]),(17,[0,3,4,7,8,9,69,70,86,87,88]),(16,[0,3,4,7,8,9,69,70,86,87]),(15,[0,3,4,7,8,9,69,70]),(14,[0,3,4,7,8,69,70,84]),(13,[0,3,4,7,8,69,70]),(12,[0,3,4,7,69,70,71]),(11,[0,3,4,7,69,70]),(10,[0,3,4,7]),(9,[0,3,4,43,44,45]),(8,[0,3,4,43,44,45]),(7,[0,3,4,6,43,44,45,59]),(6,[0,3,4,6,43,44,45]),(5,[0,3,4,43,44,45,46]),(4,[0,3,4,43,44,45]),(3,[0,3,4]),(2,[0,3,4]),(1,[0,3]),(0,[0])],QW [(3,(.cons 0 true (.cons 1 true (.cons 2 true (.cons 3 true (.cons 5 true (.cons 6 true (.cons 7 true (.cons 8 true (.cons 9 true (.cons 10 true (.cons 11 true (.cons 12 true (.cons 13 true (.cons 4 false (.cons 14 true (.cons 15 true (.cons 16 true .nil)))))))))))))))))),(7,(.cons 0 true (.cons 1 true (.cons 2 true (.cons 3 true (.cons 4 true (.cons 5 true (.cons 6 true (.cons 7 true (.cons 8 true (.cons 9 true (.cons 10 true .nil))))))))))))],QZ [(6,[[6]])]⟩
def q1d:Info:=⟨QP [(1,[2]),(0,[0,2])],QW [],QZ []⟩
def LL:Info:=⟨QP [(1,[2]),(0,[0,2])],QW [],QZ []⟩
def q3y:Info:=⟨QP [(1,[6]),(0,[0,4,5,6])],QW [],QZ [(0,[[4],[5]])]⟩
def HD:Info:=⟨QP [(6,[4]),(4,[1,2,5]),(5,[1,2,5]),(3,[1,2,5,18]),(2,[1,2,5]),(1,[1,2]),(0,[1,2])],QW [],QZ [(0,[[2]])]⟩
def z8p:Info:=⟨QP [(18,[2]),(17,[3,27,28,29]),(16,[2]),(15,[3,27,28,29,77]),(14,[3,5,27,28,29,62,63,64]),(13,[2]),(12,[3,5,27,28,29,62,63,64,71]),(11,[3,5,7,27,28,29,62,63,64]),(10,[3,5,27,28,29,62,63,64,65]),(9,[3,5,27,28,29,62,63,64]),(8,[2]),(7,[3,5,27,28,29,60]),(6,[3,5,27,28,29]),(5,[3,27,28,29,30]),(4,[3,27,28,29]),(3,[1,3]),(2,[2]),(1,[1,23]),(0,[1])],QW [],QZ [(0,[[1]]),(6,[[5]]),(11,[[7]])]⟩
def x4q:Info:=⟨QP [(26,[2]),(25,[1,2,3,7,57,58,59]),(24,[1,2,3,7,9,57,58,59,76,77,78]),(23,[2]),(22,[1,2,3,7,9,12,57,58,59,76,77,78,88]),(21,[1,2,3,7,9,12,57,58,59,76,77,78]),(20,[1,2,3,7,9,57,58,59,76,77,78,79]),(19,[1,2,3,7,9,57,58,59,76,77,78]),(18,[2]),(17,[1,2,3,7,8,9,57,58,59,72]),(16,[1,2,3,7,8,9,10,57,58,59]),(15,[1,2,3,7,8,9,57,58,59]),(14,[1,2,3,7,57,58,59,60]),(13,[1,2,3,7,57,58,59]),(12,[1,2,3,7]),(11,[2]),(10,[1,2,3,52]),(9,[1,2,3,6]),(8,[1,2,3,18,19,20]),(7,[1,2,3,18,19,20]),(6,[1,2,3,5,18,19,20]),(5,[1,2,3,18,19,20,21]),(4,[1,2,3,18,19,20]),(3,[1,2,3]),(2,[2]),(1,[1,2,15]),(0,[1,2])],QW [],QZ [(0,[[1]]),(6,[[5]]),(15,[[9]]),(21,[[12]])]⟩
def x5d:Info:=⟨QP [(9,[2]),(8,[1,2,14,15,16]),(7,[2]),(6,[1,2,4,14,15,16,30]),(5,[1,2,4,14,15,16]),(4,[1,2,14,15,16,17]),(3,[1,2,14,15,16]),(2,[2]),(1,[1,2,8]),(0,[1,2])],QW [],QZ [(0,[[1]]),(5,[[4]])]⟩
def z0x:Info:=⟨QP [(20,[2]),(19,[2,3,16,17,18]),(18,[2]),(17,[2,3,16,17,18,60]),(16,[2,3,7,16,17,18]),(15,[2,3,5,6,16,17,18,25,26,27]),(14,[2]),(13,[2,3,5,6,9,16,17,18,25,26,27,46]),(12,[2,3,5,6,7,9,16,17,18,25,26,27]),(11,[2,3,5,6,9,16,17,18,25,26,27]),(10,[2,3,5,6,16,17,18,25,26,27,28]),(9,[2,3,5,6,16,17,18,25,26,27]),(8,[2,3,4,5,6,16,17,18]),(7,[2,3,4,5,6,16,17,18]),(6,[2,3,4,5,16,17,18]),(5,[2,3,16,17,18,19]),(4,[2,3,16,17,18]),(3,[2]),(2,[1,2,3,13]),(1,[1,2,3]),(0,[1,2])],QW [],QZ [(0,[[1]]),(6,[[5]]),(11,[[9]])]⟩
def x4w:Info:=⟨QP [(15,[2]),(14,[2,3,33,34,35]),(13,[2]),(12,[2,3,7,33,34,35,53]),(11,[2,3,7,33,34,35]),(10,[2,3,33,34,35,36]),(9,[2,3,33,34,35]),(8,[1,2,3,15,16,17]),(7,[1,2,3,15,16,17]),(6,[1,2,3,5,15,16,17]),(5,[1,2,3,15,16,17,18]),(4,[1,2,3,15,16,17]),(3,[1,2,3]),(2,[2]),(1,[1,2,11]),(0,[1,2])],QW [(7,(.cons 3 true (.cons 4 true (.cons 5 true (.cons 0 false (.cons 1 false (.cons 2 false (.cons 6 true (.cons 7 true .nil)))))))))],QZ [(0,[[1]]),(6,[[5]]),(11,[[7]])]⟩
def WC:Info:=⟨QP [(7,[4]),(6,[0,1,7,8]),(5,[4]),(4,[0,1,5,7,8,16]),(3,[0,1,5,7,8]),(2,[0,1,7,8,9]),(1,[0,1,7,8]),(0,[0,1])],QW [],QZ []⟩
def LH:Info:=⟨QP [(1,[3]),(0,[1,2])],QW [],QZ [(0,[[2]])]⟩
def q2b:Info:=⟨QP [(8,[2]),(7,[2,3]),(6,[1,2,3,18]),(5,[1,2,3]),(4,[1,2,3,13]),(3,[1,2,3]),(2,[1,2,3,8]),(1,[1,2,3]),(0,[1,2])],QW [],QZ [(0,[[1]])]⟩
def JI:Info:=⟨QP [(8,[10]),(3,[0,1,2,3,4,11]),(7,[0,1,2,3,4,11]),(6,[0,1,2,3,4,11]),(5,[0,1,2,3,4,11,35]),(4,[0,1,2,3,4,11]),(2,[0,1,2,3,4,11,20]),(1,[0,1,2,3,4,11]),(0,[0,1,2,3,4])],QW [(6,(.cons 0 true (.cons 1 true (.cons 2 true (.cons 3 true (.cons 4 true (.cons 5 true (.cons 6 true (.cons 7 true (.cons 8 true (.cons 9 true (.cons 10 true (.cons 11 true (.cons 12 true (.cons 13 true (.cons 14 true .nil)))))))))))))))),(7,(.cons 0 true (.cons 1 true (.cons 2 true (.cons 3 true (.cons 4 true (.cons 5 true (.cons 6 true (.cons 7 true (.cons 8 true (.cons 9 true (.cons 10 true (.cons 11 true (.cons 12 true (.cons 13 true (.cons 14 true .nil))))))))))))))))],QZ []⟩
def MU:Info:=⟨QP [(12,[6]),(4,[0,2,7,8]),(11,[0,2,7,8,29,30,31]),(10,[0,2,7,8,29,30,31]),(9,[0,2,7,8,10,29,30,31,48]),(8,[0,2,7,8,10,29,30,31]),(7,[0,2,7,8,29,30,31,32]),(6,[0,2,7,8,29,30,31]),(5,[0,2,7,8,28]),(3,[0,2,7,8,16]),(2,[0,2,7,8]),(1,[0,2,7]),(0,[0,1,2])],QW [(9,(.cons 0 true (.cons 1 true (.cons 2 true (.cons 3 true (.cons 4 true (.cons 5 true (.cons 6 true (.cons 7 true (.cons 8 true (.cons 9 true (.cons 10 true (.cons 11 true (.cons 12 true (.cons 13 true .nil)))))))))))))))],QZ [(8,[[10]])]⟩
def DI:Info:=⟨QP [(14,[2]),(13,[0,3,9,10]),(12,[0,3,9,10]),(11,[0,3,4,9,10,33]),(10,[0,3,4,5,9,10,12,13,14]),(9,[0,3,4,5,9,10,12,13,14]),(8,[0,3,4,5,7,9,10,12,13,14,30]),(7,[0,3,4,5,7,9,10,12,13,14]),(6,[0,3,4,5,9,10,12,13,14,15]),(5,[0,3,4,5,9,10,12,13,14]),(4,[0,3,4,5,9,10]),(3,[0,3,9,10,11]),(2,[0,3,9,10]),(1,[0,3]),(0,[0])],QW [],QZ []⟩
def YZ:Info:=⟨QP [(4,[4,5]),(3,[4,5]),(2,[4,6,20]),(1,[2,4,6,7]),(0,[1,2,4])],QW [(4,(.cons 0 true (.cons 2 false (.cons 3 false (.cons 1 true (.cons 4 true (.cons 5 true (.cons 6 true .nil))))))))],QZ [(0,[[2]]),(1,[[6]])]⟩
def UL:Info:=⟨QP [(1,[2]),(0,[1])],QW [],QZ [(0,[[1]])]⟩
def q0l:Info:=⟨QP [(8,[4]),(7,[1,2,15,16]),(6,[1,2,15,16]),(5,[1,2,5,15,16]),(4,[1,2,15,16,17]),(3,[1,2,15,16]),(2,[1,2]),(1,[1,2,8]),(0,[1,2])],QW [],QZ [(0,[[2]])]⟩
def z3q:Info:=⟨QP [(7,[2]),(2,[2]),(4,[2]),(6,[2]),(5,[17]),(3,[0,10]),(1,[0,3]),(0,[0])],QW [],QZ []⟩
def z8h:Info:=⟨QP [(3,[2]),(2,[2]),(1,[0,16]),(0,[0])],QW [],QZ []⟩
def ND:Info:=⟨QP [(7,[2]),(6,[5,6,7]),(5,[2]),(4,[5,6,7,13]),(3,[4,5,6,7]),(2,[5,6,7,8]),(1,[5,6,7]),(0,[0])],QW [],QZ []⟩
def q0u:Info:=⟨QP [(8,[2]),(5,[0,3]),(7,[2]),(6,[0,3,34]),(4,[0,3,20]),(3,[0,3]),(2,[2]),(1,[0,16]),(0,[0])],QW [],QZ []⟩
def q1v:Info:=⟨QP [(16,[2]),(15,[1,143,144,145]),(14,[2]),(13,[1,143,144,145,151]),(12,[1,7,143,144,145]),(11,[1,143,144,145,146]),(10,[1,143,144,145]),(9,[2]),(8,[1,141]),(7,[2]),(6,[1,5,117]),(5,[2]),(4,[1,4,5,92]),(3,[1,3,4,5]),(2,[1,3,4]),(1,[1,3]),(0,[1])],QW [],QZ [(0,[[1]]),(12,[[7]])]⟩
def q6h:Info:=⟨QP [(15,[0,1,5,11,12,13]),(14,[0,1,5,11,12,13]),(13,[0,1,5,7,10,11,12,13]),(12,[0,1,5,7,10,11,12,13]),(11,[0,1,5,7,8,10,11,12,13,57]),(10,[0,1,5,7,8,10,11,12,13]),(9,[0,1,5,7,8,9,11,12,13]),(8,[0,1,5,7,8,9,11,12,13]),(7,[0,1,5,7,8,9,11,12,13,31]),(6,[0,1,5,6,7,8,9,11,12,13]),(5,[0,1,5,6,7,8,9,11,12,13]),(4,[0,1,5,6,7,8,11,12,13]),(3,[0,1,5,6,7,11,12,13]),(2,[0,1,5,11,12,13,14]),(1,[0,1,5,11,12,13]),(0,[0,1,5])],QW [(9,(.cons 5 true (.cons 0 false (.cons 1 false (.cons 2 false (.cons 3 false (.fork 4 (.cons 6 true (.cons 7 true (.cons 8 true (.cons 9 true (.cons 10 true .nil))))) 6 (.cons 4 true (.cons 7 true (.cons 8 true (.cons 9 true (.cons 10 true .nil))))))))))))],QZ [(0,[[5]]),(3,[[7]])]⟩
def YN:Info:=⟨QP [(7,[4]),(6,[0,1,7,8]),(5,[4]),(4,[0,1,5,7,8,16]),(3,[0,1,5,7,8]),(2,[0,1,7,8,9]),(1,[0,1,7,8]),(0,[0,1])],QW [],QZ []⟩
def q0e:Info:=⟨QP [(11,[4]),(10,[0,5,17,18,19]),(9,[0,5,7,17,18,19,25,26,27]),(8,[0,5,7,17,18,19,25,26,27]),(7,[0,5,7,9,17,18,19,25,26,27]),(6,[0,5,7,17,18,19,25,26,27,28]),(5,[0,5,7,17,18,19,25,26,27]),(4,[0,5,7,17,18,19]),(3,[0,5,17,18,19,20]),(2,[0,5,17,18,19]),(1,[0,1,5]),(0,[0,1])],QW [],QZ [(4,[[7]])]⟩
def BA:Info:=⟨QP [(1,[4]),(0,[0,1])],QW [(1,(.cons 4 true (.cons 5 true (.cons 0 false (.cons 1 false (.cons 2 false (.cons 3 false (.cons 6 true (.cons 7 true (.cons 8 true .nil))))))))))],QZ []⟩
def q0n:Info:=⟨QP [(13,[4]),(12,[5]),(11,[0,5,6,17,18,19]),(10,[0,5,6,17,18,19]),(9,[0,5,6,8,17,18,19]),(8,[0,5,6,8,17,18,19,32]),(7,[0,5,6,8,17,18,19]),(6,[0,5,6,17,18,19,20]),(5,[0,5,6,17,18,19]),(4,[0,1,5,6]),(3,[0,1,5]),(2,[4]),(1,[0,1,10]),(0,[0,1])],QW [],QZ []⟩
def YS:Info:=⟨QP [(4,[4,5]),(3,[4,5]),(2,[6,20]),(1,[2,6,7]),(0,[1,2])],QW [],QZ [(0,[[2]]),(1,[[6]])]⟩
def BZ:Info:=⟨QP [(7,[4]),(6,[0,1,7,8]),(5,[4]),(4,[0,1,5,7,8,16]),(3,[0,1,5,7,8]),(2,[0,1,7,8,9]),(1,[0,1,7,8]),(0,[0,1])],QW [],QZ []⟩
def FD:Info:=⟨QP [(3,[6]),(2,[6]),(1,[0,1,2,13]),(0,[0,1,2])],QW [],QZ []⟩
def GS:Info:=⟨QP [(11,[2]),(10,[1,3,14,15,16]),(9,[1,3,5,14,15,16,23,24,25]),(8,[1,3,5,14,15,16,23,24,25]),(7,[1,3,5,7,14,15,16,23,24,25]),(6,[1,3,5,14,15,16,23,24,25,26]),(5,[1,3,5,14,15,16,23,24,25]),(4,[1,3,5,14,15,16]),(3,[1,3,14,15,16,17]),(2,[1,3,14,15,16]),(1,[1,3]),(0,[1])],QW [],QZ [(0,[[1]]),(4,[[5]])]⟩
def DA:Info:=⟨QP [(12,[4]),(11,[4]),(10,[0,5,41]),(9,[4]),(8,[0,5,34]),(5,[0,1,5,6,7]),(7,[4]),(6,[0,1,5,6,7,26]),(4,[0,1,5,6,7,18]),(3,[0,1,5,6,7]),(2,[0,1,5,6]),(1,[0,1,5]),(0,[0,1])],QW [],QZ [(1,[[5]])]⟩
def PE:Info:=⟨QP [(19,[2]),(18,[0,3,10,11]),(17,[0,3,10,11]),(16,[0,3,10,11]),(15,[0,3,4,8,10,11,69]),(14,[0,3,4,8,10,11]),(13,[0,3,4,10,11,43]),(12,[0,3,4,5,10,11,13,14,15]),(11,[0,3,4,5,10,11,13,14,15]),(10,[0,3,4,5,7,10,11,13,14,15,39]),(9,[0,3,4,5,7,10,11,13,14,15,32]),(8,[0,3,4,5,7,10,11,13,14,15]),(7,[0,3,4,5,10,11,13,14,15,16]),(6,[0,3,4,5,10,11,13,14,15]),(5,[0,3,4,5,10,11]),(4,[0,3,4,10,11]),(3,[0,3,10,11,12]),(2,[0,3,10,11]),(1,[0,3]),(0,[0])],QW [(9,(.cons 0 true (.cons 1 true (.cons 2 true (.cons 3 true (.cons 4 true (.cons 5 true (.cons 6 true (.cons 7 true (.cons 8 true (.cons 9 true (.cons 10 true (.cons 11 true (.cons 12 true (.cons 13 true .nil))))))))))))))),(15,(.cons 0 true (.cons 1 true (.cons 2 true (.cons 3 true (.cons 4 true (.cons 5 true (.cons 6 true (.cons 7 true (.cons 8 true (.cons 9 true (.cons 10 true (.cons 11 true (.cons 12 true (.cons 13 true (.cons 14 true (.cons 15 true (.cons 16 true (.cons 17 true (.cons 18 true (.cons 19 true (.cons 20 true (.cons 21 true (.cons 22 true (.cons 23 true .nil))))))))))))))))))))))))),(16,(.cons 4 true (.cons 5 true (.cons 6 true (.cons 7 true (.cons 8 true (.cons 9 true (.cons 10 true (.cons 0 false (.cons 1 false (.cons 2 false (.cons 3 false (.cons 11 true (.cons 12 true (.cons 13 true .nil)))))))))))))))],QZ [(8,[[7]])]⟩
def JJ:Info:=⟨QP [(12,[4]),(11,[2,5,12,13,14]),(10,[2,5,7,12,13,14,19,20,21]),(9,[2,5,7,12,13,14,19,20,21]),(8,[2,5,7,9,12,13,14,19,20,21,35]),(7,[2,5,7,9,12,13,14,19,20,21]),(6,[2,5,7,12,13,14,19,20,21,22]),(5,[2,5,7,12,13,14,19,20,21]),(4,[2,5,7,12,13,14]),(3,[2,5,12,13,14,15]),(2,[2,5,12,13,14]),(1,[1,2,5]),(0,[1,2])],QW [],QZ [(0,[[2]]),(7,[[9]])]⟩
def z8t:Info:=⟨QP [(8,[2]),(7,[3,6,7,8]),(6,[3,6,7,8]),(5,[3,6,7,8,12]),(4,[3,5,6,7,8]),(3,[3,6,7,8,9]),(2,[3,6,7,8]),(1,[0,3]),(0,[0])],QW [],QZ []⟩
def UF:Info:=⟨QP [(0,[])],QW [],QZ []⟩
def q8l:Info:=⟨QP [(1,[5]),(0,[0,1,2])],QW [(1,(.cons 0 true (.cons 1 true (.cons 2 true (.cons 3 true (.cons 4 true (.cons 5 true (.cons 6 true (.cons 7 true (.cons 8 true (.cons 9 true .nil)))))))))))],QZ []⟩
def PO:Info:=⟨QP [(7,[4]),(6,[0,5,8,9,10]),(5,[0,5,8,9,10]),(4,[0,5,7,8,9,10]),(3,[0,5,8,9,10,11]),(2,[0,5,8,9,10]),(1,[0,1,5]),(0,[0,1])],QW [(5,(.cons 1 true (.cons 2 true (.cons 3 true (.cons 0 false (.cons 5 false (.cons 6 false (.cons 7 false (.cons 4 true (.cons 8 true (.cons 9 true (.cons 10 true (.cons 11 true (.cons 12 true .nil))))))))))))))],QZ [(4,[[7]])]⟩
def x5y:Info:=⟨QP [(13,[2]),(12,[3,25,26,27]),(11,[3,25,26,27]),(10,[3,5,25,26,27,34]),(9,[3,5,25,26,27,33,34]),(8,[3,5,25,26,27,33,34]),(7,[3,5,25,26,27,33,34]),(6,[3,5,25,26,27,33]),(5,[3,5,25,26,27]),(4,[3,25,26,27,28]),(3,[3,25,26,27]),(2,[0,3]),(1,[0,3]),(0,[0])],QW [(1,(.cons 0 true (.cons 2 false (.cons 3 false (.cons 4 false (.cons 5 false (.cons 1 true (.cons 6 true (.cons 7 true .nil))))))))),(3,(.cons 0 true (.cons 1 true (.cons 2 true (.cons 3 true (.cons 4 true (.cons 5 true (.cons 6 true (.cons 7 true (.cons 10 false (.cons 8 true (.cons 9 true .nil))))))))))))],QZ [(5,[[5]])]⟩
def x9c:Info:=⟨QP [(12,[4]),(11,[0,1,5,13,14]),(10,[0,1,5,6,13,14,20,21,22]),(9,[0,1,5,6,13,14,20,21,22]),(8,[0,1,5,6,8,13,14,20,21,22]),(7,[0,1,5,6,13,14,20,21,22,23]),(6,[0,1,5,6,13,14,20,21,22]),(5,[0,1,5,6,13,14]),(4,[0,1,5,6,13,14]),(3,[0,1,5,13,14,15]),(2,[0,1,5,13,14]),(1,[0,1,5]),(0,[0,1])],QW [],QZ []⟩
def GG:Info:=⟨QP [(9,[4]),(8,[0,1,12,13]),(7,[4]),(6,[0,1,12,13,24]),(5,[0,1,5,12,13]),(4,[0,1,12,13,14]),(3,[0,1,12,13]),(2,[4]),(1,[0,1,10]),(0,[0,1])],QW [(6,(.cons 0 true (.cons 1 true (.cons 2 true (.cons 3 true (.cons 4 true (.cons 5 true (.cons 6 true (.cons 7 true (.cons 8 true .nil))))))))))],QZ []⟩
def q1h:Info:=⟨QP [(3,[4]),(2,[4]),(1,[0,1,19]),(0,[0,1])],QW [(1,(.cons 0 true (.cons 1 true (.cons 2 true (.cons 3 true (.cons 4 true (.cons 5 true (.cons 6 true (.cons 7 true (.cons 8 true (.cons 9 true (.cons 10 true (.cons 11 true (.cons 12 true (.cons 13 true (.cons 14 true .nil))))))))))))))))],QZ []⟩
def LM:Info:=⟨QP [(18,[2]),(8,[0,3,4,5,6]),(17,[0,3,4,5,6,8,60,61,62]),(16,[0,3,4,5,6,8,60,61,62]),(15,[0,3,4,5,6,8,10,60,61,62]),(14,[0,3,4,5,6,8,60,61,62,63]),(13,[0,3,4,5,6,8,60,61,62]),(12,[0,3,4,5,6,7,8]),(11,[0,3,4,5,6,7]),(10,[0,3,4,5,6]),(9,[0,3,4,5,6,40]),(7,[0,3,4,5,6,31]),(6,[0,3,4,5,6]),(5,[0,3,4,5]),(4,[0,3,4]),(3,[0,3]),(2,[2]),(1,[0,12]),(0,[0])],QW [(11,(.cons 5 true (.cons 6 true (.cons 7 true (.cons 8 true (.cons 0 false (.cons 1 false (.cons 2 false (.cons 3 false (.cons 4 false (.cons 9 true (.cons 10 true (.cons 11 true .nil)))))))))))))],QZ []⟩
def x3p:Info:=⟨QP [(8,[2]),(7,[3,6,7,8]),(6,[2]),(5,[3,5,6,7,8,14]),(4,[3,5,6,7,8]),(3,[3,6,7,8,9]),(2,[3,6,7,8]),(1,[0,3]),(0,[0])],QW [],QZ []⟩
def q2h:Info:=⟨QP [(13,[4]),(12,[4]),(11,[19]),(10,[4]),(9,[0,1,16]),(8,[4]),(7,[0,1,13]),(6,[4]),(5,[4]),(4,[12]),(3,[0,1,6,11]),(2,[0,1,5,6]),(1,[0,1,5]),(0,[0,1])],QW [],QZ []⟩
def z1x:Info:=⟨QP [(3,[2]),(2,[2]),(1,[0,4]),(0,[0])],QW [],QZ []⟩
def q9e:Info:=⟨QP [(9,[6,7]),(8,[6,7]),(7,[37]),(6,[0,1,2,12,13,14]),(5,[6,7]),(4,[0,1,2,9,12,13,14,22]),(3,[0,1,2,9,12,13,14]),(2,[0,1,2,12,13,14,15]),(1,[0,1,2,12,13,14]),(0,[0,1,2])],QW [],QZ [(3,[[9]])]⟩
def x7o:Info:=⟨QP [(7,[2]),(6,[5,6,7]),(5,[2]),(4,[5,6,7,13]),(3,[4,5,6,7]),(2,[5,6,7,8]),(1,[5,6,7]),(0,[0])],QW [],QZ []⟩
def KO:Info:=⟨QP [(12,[6]),(11,[0,2,16,17,18]),(10,[6]),(9,[0,2,16,17,18,69]),(8,[6]),(7,[0,2,8,16,17,18,53]),(6,[0,2,8,16,17,18]),(5,[0,2,8,16,17,18]),(4,[0,2,16,17,18,19]),(3,[0,2,16,17,18]),(2,[6]),(1,[0,1,2,15]),(0,[0,1,2])],QW [(7,(.cons 0 true (.cons 1 true (.cons 2 true (.cons 3 true (.cons 4 true (.cons 5 true (.cons 6 true (.cons 7 true (.cons 8 true (.cons 9 true (.cons 10 true (.cons 11 true (.cons 12 true (.cons 13 true (.cons 14 true (.cons 15 true (.cons 16 true (.cons 17 true (.cons 18 true (.cons 19 true (.cons 20 true (.cons 21 true (.cons 22 true (.cons 23 true (.cons 24 true .nil))))))))))))))))))))))))))],QZ [(5,[[8]])]⟩
def x6q:Info:=⟨QP [(7,[2]),(6,[0,5,6,7]),(5,[2]),(4,[0,5,6,7,16]),(3,[0,3,4,5,6,7]),(2,[0,5,6,7,8]),(1,[0,5,6,7]),(0,[0])],QW [],QZ []⟩
def z1k:Info:=⟨QP [(7,[2]),(6,[1,3,7,8,9]),(5,[1,3,7,8,9]),(4,[1,3,5,7,8,9]),(3,[1,3,7,8,9,10]),(2,[1,3,7,8,9]),(1,[1,3]),(0,[1])],QW [],QZ [(0,[[1]]),(4,[[5]])]⟩
def VW:Info:=⟨QP [(1,[4]),(0,[0,1])],QW [],QZ []⟩
def q9u:Info:=⟨QP [(1,[3]),(0,[0,1])],QW [],QZ []⟩
def q7m:Info:=⟨QP [(1,[4]),(0,[0,1])],QW [(1,(.cons 0 true (.cons 1 true (.cons 2 true (.cons 3 true (.cons 4 true (.cons 5 true (.cons 6 true (.cons 7 true (.cons 8 true (.cons 9 true (.cons 10 true (.cons 11 true (.cons 12 true (.cons 13 true (.cons 14 true (.cons 15 true (.cons 16 true (.cons 17 true (.cons 18 true (.cons 19 true (.cons 20 true (.cons 21 true .nil)))))))))))))))))))))))],QZ []⟩
def x4t:Info:=⟨QP [(7,[8]),(6,[2,4,5,7,12,13,14]),(5,[8]),(4,[2,4,5,7,12,13,14,22]),(3,[2,4,5,7,10,12,13,14]),(2,[2,4,5,7,12,13,14,15]),(1,[2,4,5,7,12,13,14]),(0,[2,4,5,7])],QW [],QZ [(0,[[4],[5],[7]])]⟩
def x8p:Info:=⟨QP [(9,[4]),(8,[3,11,12,13]),(7,[4]),(6,[3,6,11,12,13,21]),(5,[3,6,11,12,13]),(4,[3,11,12,13,14]),(3,[3,11,12,13]),(2,[4]),(1,[2,3,9]),(0,[2,3])],QW [],QZ [(0,[[2],[3]]),(5,[[6]])]⟩
def q5v:Info:=⟨QP [(3,[2]),(2,[2]),(1,[1,6]),(0,[1])],QW [],QZ [(0,[[1]])]⟩
def z1o:Info:=⟨QP [(8,[4,5]),(7,[0,8,9,10]),(6,[0,8,9,10]),(5,[4,5]),(4,[0,7,8,9,10,16]),(3,[0,7,8,9,10]),(2,[0,8,9,10,11]),(1,[0,8,9,10]),(0,[0,1])],QW [],QZ []⟩
def x7v:Info:=⟨QP [(8,[4]),(4,[4]),(7,[4]),(6,[6]),(5,[0,3,16]),(3,[0,3,9,10]),(2,[0,3,9,10]),(1,[0,3,9]),(0,[0,3])],QW [],QZ [(0,[[3]])]⟩
def q7n:Info:=⟨QP [(20,[4]),(19,[6]),(18,[2,5,6,21,22,23]),(17,[2,5,6,21,22,23,31,32,33]),(16,[2,5,6,21,22,23,31,32,33,39,40,41]),(15,[2,5,6,21,22,23,31,32,33,39,40,41]),(14,[2,5,6,12,21,22,23,31,32,33,39,40,41,48]),(13,[2,5,6,12,21,22,23,31,32,33,39,40,41]),(12,[2,5,6,21,22,23,31,32,33,39,40,41,42]),(11,[2,5,6,21,22,23,31,32,33,39,40,41]),(10,[2,5,6,10,21,22,23,31,32,33]),(9,[2,5,6,21,22,23,31,32,33,34]),(8,[2,5,6,21,22,23,31,32,33]),(7,[2,5,6,8,21,22,23]),(6,[2,5,6,21,22,23,24]),(5,[2,5,6,21,22,23]),(4,[1,2,5,6]),(3,[1,2,5]),(2,[4]),(1,[1,2,16]),(0,[1,2])],QW [],QZ [(0,[[2]]),(10,[[10]])]⟩
def x1v:Info:=⟨QP [(10,[4]),(9,[1,2,5,9,10,11]),(8,[1,2,5,9,10,11]),(7,[4]),(6,[1,2,5,7,9,10,11,34]),(5,[1,2,5,7,9,10,11,17]),(4,[1,2,5,7,9,10,11]),(3,[1,2,5,9,10,11,12]),(2,[1,2,5,9,10,11]),(1,[1,2,5]),(0,[1,2])],QW [],QZ [(0,[[2]]),(4,[[7]])]⟩
def x8x:Info:=⟨QP [(3,[2]),(2,[2]),(1,[1,5]),(0,[1])],QW [],QZ [(0,[[1]])]⟩
def MV:Info:=⟨QP [(30,[2]),(29,[1,2,3,55,56,57]),(28,[1,2,3,9,55,56,57,74,75,76]),(27,[2]),(26,[1,2,3,9,11,55,56,57,74,75,76,115]),(25,[1,2,3,9,11,55,56,57,74,75,76,82,83,84]),(24,[2]),(23,[1,2,3,9,11,55,56,57,74,75,76,82,83,84,92]),(22,[1,2,3,9,11,13,55,56,57,74,75,76,82,83,84]),(21,[1,2,3,9,11,55,56,57,74,75,76,82,83,84,85]),(20,[1,2,3,9,11,55,56,57,74,75,76,82,83,84]),(19,[1,2,3,9,11,55,56,57,74,75,76]),(18,[1,2,3,9,55,56,57,74,75,76,77]),(17,[1,2,3,9,55,56,57,74,75,76]),(16,[2]),(15,[1,2,3,9,55,56,57,71]),(14,[1,2,3,9,55,56,57]),(13,[1,2,3,55,56,57,58]),(12,[1,2,3,55,56,57]),(11,[2]),(10,[1,2,3,52]),(9,[1,2,3,6,7]),(8,[1,2,3,19,20,21]),(7,[1,2,3,19,20,21]),(6,[1,2,3,5,19,20,21]),(5,[1,2,3,19,20,21,22]),(4,[1,2,3,19,20,21]),(3,[1,2,3]),(2,[2]),(1,[1,2,16]),(0,[1,2])],QW [(15,(.cons 1 false (.cons 2 false (.cons 4 false (.cons 7 false (.cons 8 false (.cons 0 true (.cons 3 true (.cons 5 true (.cons 6 true (.cons 9 true (.cons 10 true .nil))))))))))))],QZ [(0,[[1]]),(6,[[5]]),(9,[[6]]),(14,[[9]]),(19,[[11]])]⟩
def NG:Info:=⟨QP [(7,[2]),(6,[1,2,6,7,8]),(5,[2]),(4,[1,2,4,6,7,8,22]),(3,[1,2,4,6,7,8]),(2,[1,2,6,7,8,9]),(1,[1,2,6,7,8]),(0,[1,2])],QW [],QZ [(0,[[1]]),(3,[[4]])]⟩
def MQ:Info:=⟨QP [(22,[2]),(21,[2,13,14,15]),(20,[2]),(19,[2,13,14,15,80]),(18,[2,4,5,6,13,14,15,21,22,23]),(17,[2]),(16,[2,4,5,6,8,13,14,15,21,22,23,70]),(15,[2,4,5,6,8,9,13,14,15,21,22,23]),(14,[2,4,5,6,8,9,13,14,15,21,22,23,69]),(13,[2,4,5,6,8,9,13,14,15,21,22,23]),(12,[2,4,5,6,8,9,11,13,14,15,21,22,23]),(11,[2,4,5,6,8,9,13,14,15,21,22,23,43]),(10,[2,4,5,6,8,9,13,14,15,21,22,23]),(9,[2,4,5,6,8,13,14,15,21,22,23]),(8,[2,4,5,6,8,13,14,15,21,22,23]),(7,[2,4,5,6,13,14,15,21,22,23,24]),(6,[2,4,5,6,13,14,15,21,22,23]),(5,[2,4,5,6,13,14,15]),(4,[2,4,5,13,14,15]),(3,[2,4,13,14,15]),(2,[2,13,14,15,16]),(1,[2,13,14,15]),(0,[1,2])],QW [(14,(.cons 0 true (.cons 1 true (.cons 2 true (.cons 3 true (.cons 4 true (.cons 5 true (.cons 7 false (.cons 8 false (.cons 9 false (.cons 6 true (.cons 10 true (.cons 11 true (.cons 12 true .nil))))))))))))))],QZ [(0,[[1]]),(3,[[4]]),(8,[[8]])]⟩
def DX:Info:=⟨QP [(7,[2]),(6,[1,2,6,7,8]),(5,[2]),(4,[1,2,4,6,7,8,22]),(3,[1,2,4,6,7,8]),(2,[1,2,6,7,8,9]),(1,[1,2,6,7,8]),(0,[1,2])],QW [],QZ [(0,[[1]]),(3,[[4]])]⟩
def PX:Info:=⟨QP [(3,[4]),(2,[4]),(1,[0,1,10]),(0,[0,1])],QW [],QZ []⟩
def JN:Info:=⟨QP [(10,[4]),(6,[1,2,5,6]),(9,[1,2,5,6]),(8,[1,2,5,6,7,32]),(7,[1,2,5,6,7]),(5,[1,2,5,6,19]),(4,[1,2,5,6]),(3,[1,2,5]),(2,[4]),(1,[1,2,9]),(0,[1,2])],QW [],QZ [(0,[[2]])]⟩
def q0d:Info:=⟨QP [(9,[2]),(8,[1,48,49]),(7,[2]),(6,[1,48,49,58]),(5,[1,3,48,49]),(4,[1,48,49,50]),(3,[1,48,49]),(2,[2]),(1,[1,45]),(0,[1])],QW [(1,(.cons 0 true (.cons 1 true (.cons 3 false (.cons 4 false (.cons 5 false (.cons 2 true (.cons 6 true (.cons 7 true (.cons 8 true (.cons 9 true (.cons 10 true (.cons 11 true (.cons 12 true (.cons 13 true (.cons 14 true (.cons 15 true (.cons 16 true (.cons 17 true (.cons 18 true (.cons 19 true (.cons 20 true (.cons 21 true (.cons 22 true (.cons 23 true (.cons 24 true (.cons 25 true (.cons 26 true (.cons 27 true (.cons 28 true (.cons 29 true (.cons 30 true (.cons 31 true (.cons 32 true (.cons 33 true (.cons 34 true (.cons 35 true (.cons 36 true (.cons 37 true (.cons 38 true (.cons 39 true (.cons 40 true (.cons 41 true .nil)))))))))))))))))))))))))))))))))))))))))))],QZ [(0,[[1]])]⟩
def PS:Info:=⟨QP [(7,[4]),(6,[0,1,7,8,9]),(5,[4]),(4,[0,1,7,8,9,15]),(3,[0,1,6,7,8,9]),(2,[0,1,7,8,9,10]),(1,[0,1,7,8,9]),(0,[0,1])],QW [],QZ []⟩
def x8b:Info:=⟨QP [(1,[2]),(0,[0])],QW [],QZ []⟩
def w3b:Info:=⟨QP [(3,[4]),(2,[0,1]),(1,[0,1,20]),(0,[0,1])],QW [],QZ []⟩
def z8r:Info:=⟨QP [(16,[2]),(15,[2]),(14,[4]),(13,[3,4]),(12,[3,4]),(11,[3,4]),(10,[3,4]),(9,[3,4]),(8,[3,4]),(7,[3,4]),(6,[3,4]),(5,[3,4]),(4,[3,4]),(3,[3,4]),(2,[3,4]),(1,[3]),(0,[0])],QW [],QZ []⟩
def NT:Info:=⟨QP [(1,[2]),(0,[0])],QW [],QZ []⟩
def NO:Info:=⟨QP [(1,[2]),(0,[0])],QW [],QZ []⟩
def MC:Info:=⟨QP [(7,[2]),(6,[0,5,6,7]),(5,[2]),(4,[0,5,6,7,13]),(3,[0,4,5,6,7]),(2,[0,5,6,7,8]),(1,[0,5,6,7]),(0,[0])],QW [],QZ []⟩
def LI:Info:=⟨QP [(1,[2]),(0,[1])],QW [],QZ [(0,[[1]])]⟩
def q1g:Info:=⟨QP [(3,[2]),(2,[2]),(1,[1,4]),(0,[1])],QW [],QZ [(0,[[1]])]⟩
def z2l:Info:=⟨QP [(12,[2]),(11,[3,21,22,23]),(10,[3,21,22,23]),(9,[3,7,21,22,23]),(8,[3,21,22,23,24]),(7,[3,21,22,23]),(6,[1,3,9,10,11]),(5,[1,3,9,10,11]),(4,[1,3,5,9,10,11]),(3,[1,3,9,10,11,12]),(2,[1,3,9,10,11]),(1,[1,3]),(0,[1])],QW [],QZ [(0,[[1]]),(4,[[5]]),(9,[[7]])]⟩
def q4r:Info:=⟨QP [(15,[4]),(3,[4]),(5,[4]),(7,[4]),(9,[4]),(11,[4]),(14,[4]),(13,[5]),(12,[0,3,58]),(10,[0,3,9,55]),(8,[0,3,9,50]),(6,[0,3,9,37]),(4,[0,3,9,25]),(2,[0,3,9,10]),(1,[0,3,9]),(0,[0,3])],QW [(3,(.cons 0 true (.cons 1 true (.cons 2 true (.cons 3 true (.cons 4 true (.cons 6 false (.cons 7 false (.cons 8 false (.cons 9 false (.cons 10 false (.cons 5 true (.cons 11 true (.cons 12 true (.cons 13 true .nil))))))))))))))),(5,(.cons 0 true (.cons 1 true (.cons 2 true (.cons 3 true (.cons 4 true (.cons 5 true (.cons 7 false (.cons 8 false (.cons 6 true (.cons 9 true (.cons 10 true .nil)))))))))))),(7,(.cons 0 true (.cons 1 true (.cons 2 true (.cons 3 true (.cons 4 true (.cons 5 true (.cons 6 true (.cons 7 true (.cons 8 true (.cons 9 true (.cons 10 true (.cons 11 true .nil)))))))))))))],QZ [(0,[[3]])]⟩
def z2m:Info:=⟨QP [(2,[2]),(1,[0]),(0,[0])],QW [],QZ []⟩
def z1i:Info:=⟨QP [(9,[4]),(8,[5,20,21,22]),(7,[5,20,21,22]),(6,[5,7,20,21,22]),(5,[5,20,21,22,23]),(4,[5,20,21,22]),(3,[1,5]),(2,[4]),(1,[0,1,13]),(0,[0,1])],QW [(3,(.cons 0 false (.cons 2 false (.fork 1 (.cons 3 true (.cons 4 true (.cons 5 true (.cons 6 true .nil)))) 3 (.cons 1 true (.cons 4 true (.cons 5 true (.cons 6 true .nil))))))))],QZ [(3,[[19]]),(6,[[7]])]⟩
def HB:Info:=⟨QP [(1,[4]),(0,[0,1])],QW [],QZ []⟩
def x6i:Info:=⟨QP [(11,[6]),(3,[0,1,2,7]),(10,[0,1,2,7,22,23,24]),(9,[0,1,2,7,22,23,24]),(8,[0,1,2,7,9,22,23,24]),(7,[0,1,2,7,9,22,23,24,32]),(6,[0,1,2,7,9,22,23,24]),(5,[0,1,2,7,22,23,24,25]),(4,[0,1,2,7,22,23,24]),(2,[0,1,2,7,13]),(1,[0,1,2,7]),(0,[0,1,2])],QW [],QZ []⟩
def x0a:Info:=⟨QP [(8,[2]),(7,[3,6,7,8]),(6,[3,6,7,8]),(5,[3,4,6,7,8,13]),(4,[3,4,5,6,7,8]),(3,[3,6,7,8,9]),(2,[3,6,7,8]),(1,[0,3]),(0,[0])],QW [],QZ []⟩
def PF:Info:=⟨QP [(7,[8]),(6,[1,2,3,11,12,13]),(5,[8]),(4,[1,2,3,10,11,12,13,26]),(3,[1,2,3,10,11,12,13]),(2,[1,2,3,11,12,13,14]),(1,[1,2,3,11,12,13]),(0,[0,1,2,3])],QW [],QZ [(3,[[10]])]⟩
def GU:Info:=⟨QP [(19,[4]),(5,[4]),(7,[4]),(9,[4]),(12,[4]),(11,[7]),(18,[4]),(17,[4]),(16,[5,9,70]),(15,[3,5,9]),(14,[3,5,6,58]),(13,[3,5,6,18,58]),(10,[2,3,5,6,18,45]),(8,[2,3,5,6,18,42]),(6,[2,3,5,6,18,32]),(4,[2,3,5,6,18,19]),(3,[2,3,5,6,18]),(2,[2,3,5,6]),(1,[2,3,5]),(0,[2,3])],QW [(5,(.cons 0 true (.cons 1 true (.cons 2 true (.cons 3 true (.cons 5 false (.cons 6 false (.cons 7 false (.cons 8 false (.cons 4 true (.cons 9 true (.cons 10 true (.cons 11 true .nil)))))))))))))],QZ [(0,[[2],[3]])]⟩
def NL:Info:=⟨QP [(7,[4]),(6,[1,4,7,8,9]),(5,[4]),(4,[1,4,6,7,8,9,17]),(3,[1,4,6,7,8,9]),(2,[1,4,7,8,9,10]),(1,[1,4,7,8,9]),(0,[0,1,4])],QW [],QZ [(3,[[6]])]⟩
def q0w:Info:=⟨QP [(8,[4]),(7,[3,5,8,9,10]),(6,[3,5,8,9,10]),(5,[3,5,7,8,9,10,25]),(4,[3,5,7,8,9,10]),(3,[3,5,8,9,10,11]),(2,[3,5,8,9,10]),(1,[0,3,5]),(0,[0,3])],QW [],QZ [(0,[[3]]),(4,[[7]])]⟩
def HU:Info:=⟨QP [(5,[4]),(4,[4]),(3,[2,3,19]),(2,[4]),(1,[2,3,9]),(0,[2,3])],QW [],QZ [(0,[[2],[3]])]⟩
def BR:Info:=⟨QP [(11,[4]),(10,[0,1,9,10]),(9,[0,1,5,9,10,13,14,15]),(8,[0,1,5,9,10,13,14,15]),(7,[0,1,5,7,9,10,13,14,15,46]),(6,[0,1,5,7,9,10,13,14,15]),(5,[0,1,5,9,10,13,14,15,16]),(4,[0,1,5,9,10,13,14,15]),(3,[0,1,5,9,10]),(2,[0,1,9,10,11]),(1,[0,1,9,10]),(0,[0,1])],QW [(7,(.cons 0 true (.cons 1 true (.cons 2 true (.cons 3 true (.cons 4 true (.cons 5 true (.cons 6 true (.cons 7 true (.cons 8 true (.cons 9 true (.cons 10 true (.cons 11 true (.cons 12 true (.cons 13 true (.cons 14 true (.cons 15 true (.cons 16 true (.cons 17 true (.cons 18 true (.cons 19 true (.cons 20 true (.cons 21 true (.cons 22 true (.cons 23 true (.cons 24 true (.cons 25 true (.cons 26 true (.cons 27 true .nil)))))))))))))))))))))))))))))],QZ [(6,[[7]])]⟩
def KP:Info:=⟨QP [(21,[4]),(20,[1,5,16,17,18]),(19,[1,5,16,17,18]),(18,[1,5,8,16,17,18,66]),(17,[1,5,7,8,9,12,16,17,18,47,48,49]),(16,[1,5,7,8,9,12,16,17,18,47,48,49]),(15,[1,5,7,8,9,12,14,16,17,18,47,48,49]),(14,[1,5,7,8,9,12,16,17,18,47,48,49,50]),(13,[1,5,7,8,9,12,16,17,18,47,48,49]),(12,[1,5,7,8,9,12,16,17,18]),(11,[1,5,7,8,9,16,17,18,30,31,32]),(10,[1,5,7,8,9,16,17,18,30,31,32]),(9,[1,5,7,8,9,11,16,17,18,30,31,32]),(8,[1,5,7,8,9,16,17,18,30,31,32,33]),(7,[1,5,7,8,9,16,17,18,30,31,32]),(6,[1,5,7,8,9,16,17,18]),(5,[1,5,7,8,16,17,18]),(4,[1,5,7,16,17,18]),(3,[1,5,16,17,18,19]),(2,[1,5,16,17,18]),(1,[1,2,5]),(0,[1,2])],QW [(10,(.cons 0 true (.cons 1 true (.cons 2 true (.cons 3 true (.cons 5 false (.cons 6 false (.cons 7 false (.cons 4 true (.cons 8 true (.cons 9 true (.cons 10 true .nil))))))))))))],QZ [(0,[[2]]),(4,[[7]])]⟩
def JO:Info:=⟨QP [(16,[0,1,2,6]),(15,[0,1,2,6]),(14,[0,1,2,6,7,9,54]),(13,[0,1,2,6,7,9]),(12,[0,1,2,6,7,8]),(11,[0,1,2,6,7,8]),(10,[0,1,2,6,8]),(9,[0,1,2,6,7,8,35]),(8,[0,1,2,6,7,8]),(7,[0,1,2,6,30]),(6,[0,1,2,6]),(5,[0,1,2,6,7,8]),(4,[0,1,2,6,7,8]),(3,[0,1,2,6,8]),(2,[0,1,2,6,7,8,13]),(1,[0,1,2,6,7,8]),(0,[0,1,2,6])],QW [],QZ []⟩
def q4e:Info:=⟨QP [(12,[2]),(11,[0,3,9,10,11]),(10,[0,3,9,10,11,15,16,17]),(9,[0,3,9,10,11,15,16,17]),(8,[0,3,7,9,10,11,15,16,17,34]),(7,[0,3,7,9,10,11,15,16,17]),(6,[0,3,9,10,11,15,16,17,18]),(5,[0,3,9,10,11,15,16,17]),(4,[0,3,5,9,10,11]),(3,[0,3,9,10,11,12]),(2,[0,3,9,10,11]),(1,[0,3]),(0,[0])],QW [],QZ []⟩
def q2r:Info:=⟨QP [(21,[2]),(20,[0,3,4,5,6,26,27]),(19,[0,3,4,5,6,26,27]),(18,[0,3,4,5,6,9,26,27]),(17,[0,3,4,5,6,9,26,27,96]),(16,[0,3,4,5,6,9,26,27]),(15,[0,3,4,5,6,8,9,26,27]),(14,[0,3,4,5,6,26,27]),(13,[0,3,4,5,6,26,27]),(12,[0,3,4,5,6,8,26,27,63]),(11,[0,3,4,5,6,8,26,27]),(10,[0,3,4,5,6,26,27,44]),(9,[0,3,4,5,6,26,27]),(8,[0,3,4,5,6,7,26,27]),(7,[0,3,4,5,6,7,26,27,34]),(6,[0,3,4,5,6,7,26,27]),(5,[0,3,4,5,6,26,27,28]),(4,[0,3,4,5,6,26,27]),(3,[0,3,4,5,6]),(2,[0,3,4,5]),(1,[0,3,4]),(0,[0])],QW [(12,(.cons 0 true (.cons 1 true (.cons 2 true (.cons 3 true (.cons 4 true (.cons 5 true (.cons 6 true (.cons 7 true (.cons 8 true (.cons 9 true (.cons 10 true (.cons 11 true (.cons 12 true .nil)))))))))))))),(15,(.cons 0 true (.cons 1 true (.cons 2 true (.cons 3 true (.cons 4 true (.cons 5 true (.cons 6 true (.cons 7 true (.cons 8 true (.cons 9 true (.cons 10 true (.cons 11 true (.cons 12 true (.cons 13 true .nil)))))))))))))))],QZ []⟩
def PC:Info:=⟨QP [(8,[2]),(6,[0,3,4]),(7,[0,3,4]),(5,[0,3,4,15]),(4,[0,3,4]),(3,[0,3]),(2,[0]),(1,[0,7]),(0,[0])],QW [],QZ []⟩
def q6j:Info:=⟨QP [(1,[2]),(0,[0])],QW [],QZ []⟩
def x6v:Info:=⟨QP [(26,[2]),(25,[2]),(24,[1,89]),(23,[2]),(22,[1,3,4,5,70]),(6,[1,3,4,5,6,7,8,9]),(9,[1,3,4,5,6,7,8,9]),(11,[1,3,4,5,6,7,8,9]),(13,[1,3,4,5,6,7,8,9]),(15,[1,3,4,5,6,7,8,9]),(17,[1,3,4,5,6,7,8,9]),(19,[1,3,4,5,6,7,8,9]),(4,[2]),(21,[1,3,4,5,6,7,8,9,37]),(20,[1,3,4,5,6,7,8,9,16,37]),(18,[1,3,4,5,6,7,8,9,16,33]),(16,[1,3,4,5,6,7,8,9,16,31]),(14,[1,3,4,5,6,7,8,9,16,29]),(12,[1,3,4,5,6,7,8,9,16,24]),(10,[1,3,4,5,6,7,8,9,16,22]),(8,[1,3,4,5,6,7,8,9,16,19]),(7,[1,3,4,5,6,7,8,9,16,19]),(5,[1,3,4,5,6,7,8,9,16,17]),(3,[1,3,4,5,6,7,8,9,16]),(2,[1,3,4,5,6,7,8,9]),(1,[1,3,4,5,6,7,8]),(0,[1])],QW [(1,(.cons 0 true (.cons 1 true (.cons 2 true (.cons 3 true (.cons 4 true (.cons 5 true (.cons 6 true (.cons 7 true .nil)))))))))],QZ [(0,[[1]])]⟩
def UU:Info:=⟨QP [(7,[4]),(6,[0,1,7,8]),(5,[4]),(4,[0,1,5,7,8,16]),(3,[0,1,5,7,8]),(2,[0,1,7,8,9]),(1,[0,1,7,8]),(0,[0,1])],QW [],QZ []⟩
def x9t:Info:=⟨QP [(12,[2]),(11,[3,25,26,27]),(10,[3,25,26,27]),(9,[3,5,25,26,27]),(8,[3,5,25,26,27,32]),(7,[3,5,25,26,27]),(6,[3,25,26,27,28]),(5,[3,25,26,27]),(4,[1,3]),(3,[1,3]),(2,[1,3,13]),(1,[1,3]),(0,[1])],QW [],QZ [(0,[[1]]),(7,[[5]])]⟩
def x7c:Info:=⟨QP [(13,[6]),(12,[6]),(11,[36]),(10,[6]),(9,[2,3,32]),(8,[2,3,4,10,11,12]),(7,[6]),(6,[2,3,4,10,11,12,27]),(5,[6]),(4,[2,3,4,8,10,11,12,23]),(3,[2,3,4,8,10,11,12]),(2,[2,3,4,10,11,12,13]),(1,[2,3,4,10,11,12]),(0,[2,3,4])],QW [],QZ [(0,[[3],[4]]),(3,[[8]])]⟩
def x7e:Info:=⟨QP [(9,[4]),(8,[1,12,13,14]),(7,[4]),(6,[1,12,13,14,26]),(5,[1,5,6,12,13,14]),(4,[1,12,13,14,15]),(3,[1,12,13,14]),(2,[4]),(1,[0,1,11]),(0,[0,1])],QW [(6,(.cons 0 true (.cons 1 true (.cons 2 true (.cons 3 true (.cons 4 true (.cons 5 true (.cons 6 true (.cons 7 true .nil)))))))))],QZ [(5,[[6]])]⟩
def x4l:Info:=⟨QP [(1,[4]),(0,[2,3])],QW [],QZ [(0,[[2],[3]])]⟩
def z2x:Info:=⟨QP [(12,[4]),(11,[5]),(4,[0,5,6]),(10,[0,5,6,22,23,24]),(9,[0,5,6,22,23,24]),(8,[0,5,6,8,22,23,24,31]),(7,[0,5,6,8,22,23,24]),(6,[0,5,6,22,23,24,25]),(5,[0,5,6,22,23,24]),(3,[0,5,6,14]),(2,[0,5,6]),(1,[0,5]),(0,[0,1])],QW [],QZ []⟩
def x4s:Info:=⟨QP [(8,[4]),(7,[1,23,24,25]),(6,[1,23,24,25]),(5,[1,6,23,24,25]),(4,[1,23,24,25,26]),(3,[1,23,24,25]),(2,[1,2]),(1,[1,2,16]),(0,[1,2])],QW [],QZ [(0,[[2]]),(5,[[6]])]⟩
def MZ:Info:=⟨QP [(1,[4]),(0,[0,1,4])],QW [],QZ []⟩
def MJ:Info:=⟨QP [(7,[4,5]),(6,[1,4,9,10,11]),(5,[4,5]),(4,[1,4,7,9,10,11,18]),(3,[1,4,7,9,10,11]),(2,[1,4,9,10,11,12]),(1,[1,4,9,10,11]),(0,[1,2,4])],QW [],QZ [(0,[[2]]),(3,[[7]])]⟩
def NF:Info:=⟨QP [(10,[2]),(9,[0,6,7]),(6,[0,3,4,6,7]),(8,[2]),(7,[0,3,4,6,7,23]),(5,[0,3,4,6,7,12]),(4,[0,3,4,6,7]),(3,[0,3,6,7]),(2,[0,6,7,8]),(1,[0,6,7]),(0,[0])],QW [(7,(.cons 0 true (.cons 1 true (.cons 2 true (.cons 3 true (.cons 4 true (.cons 5 true (.cons 6 true (.cons 7 true (.cons 8 true .nil))))))))))],QZ []⟩
def BK:Info:=⟨QP [(7,[2]),(6,[3,7,8,9]),(5,[3,7,8,9]),(4,[3,5,7,8,9]),(3,[3,7,8,9,10]),(2,[3,7,8,9]),(1,[1,3]),(0,[1])],QW [],QZ [(0,[[1]]),(4,[[5]])]⟩
def q0y:Info:=⟨QP [(13,[6]),(10,[6]),(12,[6]),(11,[34]),(9,[2,3,29]),(8,[2,3,4,10,11,12]),(7,[6]),(6,[2,3,4,10,11,12,27]),(5,[6]),(4,[2,3,4,8,10,11,12,23]),(3,[2,3,4,8,10,11,12]),(2,[2,3,4,10,11,12,13]),(1,[2,3,4,10,11,12]),(0,[2,3,4])],QW [],QZ [(0,[[3],[4]]),(3,[[8]])]⟩
def DJ:Info:=⟨QP [(10,[4]),(9,[3,5,33,34]),(8,[4]),(7,[3,5,33,34,49]),(6,[3,5,7,33,34]),(5,[3,5,33,34,35]),(4,[3,5,33,34]),(3,[4]),(2,[3,5,30]),(1,[3,5,6]),(0,[2,3])],QW [(7,(.cons 0 true (.cons 1 true (.cons 2 true (.cons 3 true (.cons 4 true (.cons 5 true (.cons 6 true (.cons 7 true (.cons 8 true (.cons 9 true (.cons 10 true (.cons 11 true (.cons 12 true .nil))))))))))))))],QZ [(0,[[2],[3]]),(1,[[5]])]⟩
def PD:Info:=⟨QP [(13,[4,5]),(3,[0,1,6]),(8,[0,1,6,7,8]),(12,[0,1,6,7,8]),(11,[4,5]),(10,[0,1,6,7,8,53]),(9,[0,1,6,7,8,46]),(7,[0,1,6,7,8,36]),(6,[0,1,6,7,8]),(5,[0,1,6,7]),(4,[0,1,6,23]),(2,[0,1,6,13]),(1,[0,1,6]),(0,[0,1])],QW [],QZ []⟩
def PY:Info:=⟨QP [(7,[2]),(6,[1,3,7,8,9]),(5,[1,3,7,8,9]),(4,[1,3,5,7,8,9]),(3,[1,3,7,8,9,10]),(2,[1,3,7,8,9]),(1,[1,3]),(0,[1])],QW [],QZ [(0,[[1]]),(4,[[5]])]⟩
def MF:Info:=⟨QP [(14,[4]),(13,[2,3,5,21,22,23]),(12,[2,3,5,21,22,23]),(11,[2,3,5,7,21,22,23,45]),(10,[4]),(9,[2,3,5,7,21,22,23,43]),(8,[2,3,5,7,21,22,23]),(7,[2,3,5,21,22,23,24]),(6,[2,3,5,21,22,23]),(5,[2,3,5]),(4,[2,3,5,14]),(3,[2,3,5]),(2,[4]),(1,[2,3,11]),(0,[2,3])],QW [(9,(.cons 0 true (.cons 1 true (.cons 2 true (.cons 3 true (.cons 4 true (.cons 5 true (.cons 6 true (.cons 7 true (.cons 8 true (.cons 9 true (.cons 10 true (.cons 12 false (.cons 13 false (.cons 11 true (.cons 14 true (.cons 15 true (.cons 16 true .nil))))))))))))))))))],QZ [(0,[[2],[3]]),(8,[[7]])]⟩
def MW:Info:=⟨QP [(7,[2]),(2,[2]),(4,[2]),(6,[2]),(5,[17]),(3,[0,10]),(1,[0,3]),(0,[0])],QW [],QZ []⟩
def z0n:Info:=⟨QP [(1,[2]),(0,[0])],QW [],QZ []⟩
def MK:Info:=⟨QP [(1,[0]),(0,[])],QW [],QZ []⟩
def z1w:Info:=⟨QP [(3,[4]),(2,[4]),(1,[0,1,7]),(0,[0,1])],QW [],QZ []⟩
def x5e:Info:=⟨QP [(1,[4]),(0,[2,3])],QW [(1,(.cons 0 true (.cons 1 true (.cons 3 false (.cons 4 false (.cons 7 false (.cons 8 false (.cons 10 false (.cons 11 false (.cons 14 false (.cons 15 false (.cons 16 false (.cons 17 false (.cons 2 true (.cons 5 true (.cons 6 true (.cons 9 true (.cons 12 true (.cons 13 true (.cons 18 true (.cons 19 true (.cons 20 true (.cons 21 true .nil)))))))))))))))))))))))],QZ [(0,[[2],[3]])]⟩
def WF:Info:=⟨QP [(16,[4]),(5,[0,1,5]),(15,[4]),(14,[0,5]),(10,[0,1,5,6,7]),(13,[0,1,5,6,7]),(12,[0,1,5,6,7]),(11,[0,1,5,6,7,49]),(9,[0,1,5,6,7,35]),(8,[0,1,5,6,7]),(7,[0,1,5,6]),(6,[0,1,5,28]),(4,[0,1,5,15]),(3,[0,1,5]),(2,[4]),(1,[0,1,10]),(0,[0,1])],QW [(6,(.cons 0 true (.cons 1 true (.cons 2 true (.cons 3 true (.cons 4 true (.cons 5 true (.cons 6 true (.cons 7 true (.cons 8 true (.cons 9 true (.cons 10 true .nil)))))))))))),(11,(.cons 0 true (.cons 1 true (.cons 2 true (.cons 3 true (.cons 4 true (.cons 5 true (.cons 6 true (.cons 7 true (.cons 8 true (.cons 9 true (.cons 10 true (.cons 11 true .nil)))))))))))))],QZ []⟩
def x4x:Info:=⟨QP [(1,[4]),(0,[2,3])],QW [],QZ [(0,[[2],[3]])]⟩
def q4i:Info:=⟨QP [(9,[6]),(8,[]),(7,[0,1,2,7]),(6,[0,1,2]),(5,[6]),(4,[0,1,2,7,31]),(3,[0,1,2,7,8]),(2,[6]),(1,[0,1,2,18]),(0,[0,1,2])],QW [(6,(.cons 13 true (.cons 0 false (.cons 1 false (.cons 2 false (.cons 3 false (.cons 4 false (.cons 5 false (.cons 6 false (.cons 7 false (.cons 8 false (.cons 9 false (.cons 10 false (.cons 11 false (.cons 12 false (.cons 14 true (.cons 15 true (.cons 16 true (.cons 17 true .nil))))))))))))))))))),(8,(.cons 13 true (.cons 0 false (.cons 1 false (.cons 2 false (.cons 3 false (.cons 4 false (.cons 5 false (.cons 6 false (.cons 7 false (.cons 8 false (.cons 9 false (.cons 10 false (.cons 11 false (.cons 12 false (.cons 14 true (.cons 15 true (.cons 16 true (.cons 17 true .nil)))))))))))))))))))],QZ []⟩
def NH:Info:=⟨QP [(9,[6,7]),(8,[6,7]),(7,[27]),(6,[1,2,10,11,12]),(5,[6,7]),(4,[1,2,9,10,11,12,20]),(3,[1,2,9,10,11,12]),(2,[1,2,10,11,12,13]),(1,[1,2,10,11,12]),(0,[0,1,2])],QW [],QZ [(3,[[9]])]⟩
def VC:Info:=⟨QP [(2,[0,1,2,3,8]),(5,[0,1,2,3,8,9]),(6,[0,1,2,3,8,9]),(4,[0,1,2,3,8,9,34]),(3,[0,1,2,3,8,9]),(1,[0,1,2,3,8,14]),(0,[0,1,2,3,8])],QW [(4,(.cons 0 true (.cons 1 true (.cons 2 true (.cons 3 true (.cons 4 true (.cons 5 true (.cons 6 true (.cons 7 true (.cons 8 true (.cons 9 true (.cons 10 true (.cons 11 true (.cons 12 true (.cons 13 true (.cons 14 true (.cons 15 true (.cons 16 true .nil)))))))))))))))))),(6,(.cons 0 true (.cons 1 true (.cons 5 true (.cons 6 true (.cons 7 true (.cons 8 true (.cons 9 true (.cons 10 true (.cons 11 true (.cons 12 true (.cons 13 true (.cons 14 true (.cons 2 false (.cons 3 false (.cons 4 false (.cons 15 true (.cons 16 true (.cons 17 true .nil)))))))))))))))))))],QZ []⟩
def YM:Info:=⟨QP [(44,[]),(43,[0,3,4,18,24,213]),(42,[0,3,4,18,24]),(41,[0,1,3,4,18,20,24,199]),(40,[0,1,3,4,18,20,24]),(39,[0,1,2,3,4,18,20,24,185]),(38,[0,1,2,3,4,18,20,24]),(36,[0,1,2,3,4,18,19,20,21,22]),(37,[0,1,2,3,4,18,19,20,21,22]),(35,[0,1,2,3,4,18,19,20,21,22,23,171]),(34,[0,1,2,3,4,18,19,20,21,22,23]),(33,[0,1,2,3,4,18,19,20,21,22,151]),(32,[0,1,2,3,4,18,19,20,21,22]),(29,[0,1,2,3,4,18,19,20,21]),(28,[0,1,2,3,4,18,19,20]),(31,[0,1,2,3,4,18,19,20,21]),(30,[0,1,2,3,4,18,19,20]),(27,[0,1,2,3,4,18,19,140]),(26,[0,1,2,3,4,18,19]),(25,[0,1,2,3,4,18,19]),(24,[0,1,2,3,4,18]),(22,[0,14,17]),(23,[0,14,17]),(21,[0,14,17,110]),(20,[0,14,17]),(18,[0,2,4,14,15]),(19,[0,2,4,14,15]),(17,[0,2,4,14,15,16,103]),(16,[0,2,4,14,15,16]),(15,[0,2,4,14,15,85]),(14,[0,2,4,14,15]),(13,[0,2,4,14]),(12,[0,1,2,3,4,80]),(10,[0,10,13]),(11,[0,10,13]),(9,[0,10,13,58]),(8,[0,10,13]),(6,[0,1,4,10,11]),(7,[0,1,4,10,11]),(5,[0,1,4,10,11,12,50]),(4,[0,1,4,10,11,12]),(3,[0,1,4,10,11,33]),(2,[0,1,4,10,11]),(1,[0,1,3,4,10]),(0,[0,1,2,3,4,28])],QW [(5,(.cons 0 true (.cons 1 true (.cons 2 true (.cons 3 true (.cons 4 true (.cons 5 true (.cons 6 true (.cons 7 true (.cons 8 true (.cons 9 true (.cons 10 true .nil)))))))))))),(11,(.cons 0 true (.cons 1 true (.cons 5 true (.cons 6 true (.cons 7 true (.cons 8 true (.cons 9 true (.cons 10 true (.cons 11 true (.cons 12 true (.cons 13 true (.cons 14 true (.cons 2 false (.cons 3 false (.cons 4 false (.cons 15 true (.cons 16 true (.cons 17 true .nil))))))))))))))))))),(17,(.cons 0 true (.cons 1 true (.cons 2 true (.cons 3 true (.cons 4 true (.cons 5 true (.cons 6 true (.cons 7 true (.cons 8 true (.cons 9 true (.cons 10 true (.cons 11 true .nil))))))))))))),(23,(.cons 0 true (.cons 1 true (.cons 5 true (.cons 6 true (.cons 7 true (.cons 8 true (.cons 9 true (.cons 10 true (.cons 11 true (.cons 12 true (.cons 13 true (.cons 14 true (.cons 2 false (.cons 3 false (.cons 4 false (.cons 15 true (.cons 16 true (.cons 17 true .nil))))))))))))))))))),(35,(.cons 0 true (.cons 1 true (.cons 2 true (.cons 3 true (.cons 4 true (.cons 5 true (.cons 6 true (.cons 7 true (.cons 8 true (.cons 9 true (.cons 10 true (.cons 11 true (.cons 12 true (.cons 13 true .nil)))))))))))))))],QZ []⟩
def x7z:Info:=⟨QP [(1,[4]),(0,[0,1])],QW [],QZ []⟩
def x8u:Info:=⟨QP [(1,[4]),(0,[1,2])],QW [],QZ [(0,[[2]])]⟩
def x3e:Info:=⟨QP [(7,[2]),(6,[5,6,7]),(5,[2]),(4,[5,6,7,25]),(3,[4,5,6,7]),(2,[5,6,7,8]),(1,[5,6,7]),(0,[0])],QW [],QZ [(3,[[4]])]⟩
def WU:Info:=⟨QP [(1,[4]),(0,[0,1])],QW [],QZ []⟩
def q9y:Info:=⟨QP [(1,[3]),(0,[1,2])],QW [],QZ [(0,[[2]])]⟩
def x5f:Info:=⟨QP [(9,[4]),(8,[5]),(7,[5,12,13,14]),(6,[5,12,13,14]),(5,[5,7,12,13,14,21]),(4,[5,7,12,13,14]),(3,[5,12,13,14,15]),(2,[5,12,13,14]),(1,[0,1,5]),(0,[0,1])],QW [],QZ [(4,[[7]])]⟩
def DC:Info:=⟨QP [(17,[4]),(16,[2,5,16,17,18]),(15,[2,5,16,17,18,29,30,31]),(14,[2,5,16,17,18,29,30,31,37,38,39]),(13,[2,5,16,17,18,29,30,31,37,38,39]),(12,[2,5,13,16,17,18,29,30,31,37,38,39,46]),(11,[2,5,13,16,17,18,29,30,31,37,38,39]),(10,[2,5,16,17,18,29,30,31,37,38,39,40]),(9,[2,5,16,17,18,29,30,31,37,38,39]),(8,[2,5,11,16,17,18,29,30,31]),(7,[2,5,16,17,18,29,30,31,32]),(6,[2,5,16,17,18,29,30,31]),(5,[2,5,8,16,17,18]),(4,[2,5,7,16,17,18]),(3,[2,5,16,17,18,19]),(2,[2,5,16,17,18]),(1,[1,2,5]),(0,[1,2])],QW [],QZ [(0,[[2]]),(5,[[8]]),(8,[[11]])]⟩
def JA:Info:=⟨QP [(8,[]),(5,[0,2,4,10,11]),(4,[0,2,4,10,11]),(7,[0,2,4,10,11]),(6,[0,2,4,10,11]),(3,[0,2,4,10,11,23]),(2,[0,2,4,10,11,20]),(1,[0,2,4,10,11]),(0,[0,2,3,4,10])],QW [],QZ []⟩
def z2h:Info:=⟨QP [(1,[2]),(0,[1])],QW [],QZ [(0,[[1]])]⟩
def BF:Info:=⟨QP [(11,[4]),(4,[2,5,6]),(10,[2,5,6,22,23,24]),(9,[2,5,6,22,23,24]),(8,[2,5,6,8,22,23,24,31]),(7,[2,5,6,8,22,23,24]),(6,[2,5,6,22,23,24,25]),(5,[2,5,6,22,23,24]),(3,[2,5,6,14]),(2,[2,5,6]),(1,[2,5]),(0,[1,2])],QW [(5,(.cons 0 true (.cons 1 true (.cons 2 true (.cons 3 true (.cons 4 true (.cons 7 false (.cons 5 true (.cons 6 true .nil)))))))))],QZ [(0,[[2]])]⟩
def YJ:Info:=⟨QP [(2,[0,1,2,3,10]),(3,[0,1,2,3,10]),(1,[0,1,2,3,10,13]),(0,[0,1,2,3,10])],QW [(3,(.cons 0 true (.cons 1 true (.cons 2 true (.cons 3 true (.cons 8 true (.cons 9 true (.cons 10 true (.cons 11 true (.cons 12 true (.cons 13 true (.cons 14 true (.cons 15 true (.cons 16 true (.cons 17 true (.cons 18 true (.cons 19 true (.cons 20 true (.cons 4 false (.cons 5 false (.cons 6 false (.cons 7 false (.cons 21 true (.cons 22 true (.cons 23 true .nil)))))))))))))))))))))))))],QZ []⟩
def MB:Info:=⟨QP [(9,[4]),(8,[7,17,18,19]),(7,[7,17,18,19]),(6,[7,9,17,18,19,26]),(5,[7,9,17,18,19]),(4,[7,17,18,19,20]),(3,[7,17,18,19]),(2,[5,7]),(1,[5]),(0,[1,2])],QW [],QZ [(0,[[2]]),(1,[[5]]),(5,[[9]])]⟩
abbrev Str:=List UInt8
inductive X where
 | mk (op n:Int) (name:Str) (kids:List X)
namespace X
def op:X->Int | .mk a _ _ _=>a
def n:X->Int | .mk _ a _ _=>a
def name:X->Str | .mk _ _ a _=>a
def kids:X->List X | .mk _ _ _ a=>a
end X
structure Arg where
 ref:Bool
 name:Str
 x:X
inductive S where
 | mk (id kind:Int) (labels:List Str) (name proc:Str) (x:X) (has:Bool) (args:List Arg) (thn els:List S)
namespace S
def id:S->Int | .mk a _ _ _ _ _ _ _ _ _=>a
def kind:S->Int | .mk _ a _ _ _ _ _ _ _ _=>a
def labels:S->List Str | .mk _ _ a _ _ _ _ _ _ _=>a
def name:S->Str | .mk _ _ _ a _ _ _ _ _ _=>a
def proc:S->Str | .mk _ _ _ _ a _ _ _ _ _=>a
def x:S->X | .mk _ _ _ _ _ a _ _ _ _=>a
def has:S->Bool | .mk _ _ _ _ _ _ a _ _ _=>a
def args:S->List Arg | .mk _ _ _ _ _ _ _ a _ _=>a
def thn:S->List S | .mk _ _ _ _ _ _ _ _ a _=>a
def els:S->List S | .mk _ _ _ _ _ _ _ _ _ a=>a
end S
structure Param where
 name:Str
 ref:Bool
structure Pr where
 name:Str
 params:List Param
 vars:List Str
 body:List S
 fin:List Str
structure Pg where
 globals:List Str
 procs:List Pr
structure Step where
 src:Int
 dst:Int
 kind:Int
 deriving DecidableEq
def QM (l:List Str):AV := .sl (l.map .str)
def QD (l:List Int):AV := .sl (l.map (.int .i64))
mutual
def X.av:X->AV
 | .mk op n name kids => .agg [.int .i64 op,.int .i64 n,.str name,.sl (X.avs kids)]
def X.avs:List X->List AV
 | []=>[]
 | x::r=>X.av x::X.avs r
end
def X.cells (x:X):List AV:=[.int .i64 x.op,.int .i64 x.n,.str x.name,.sl (X.avs x.kids)]
theorem X.av_eq (x:X):x.av = .agg x.cells:=by cases x;simp only [X.av,X.cells,X.op,X.n,X.name,X.kids]
theorem X.avs_eq : ∀ l:List X,X.avs l=l.map fun x => .agg x.cells
 | []=>by simp only [X.avs,map_nil]
 | x::r=>by simp only [X.avs,X.av_eq,X.avs_eq r,map_cons]
def Arg.cells (a:Arg):List AV := .bool a.ref :: .str a.name::a.x.cells
mutual
def S.av:S->AV
 | .mk id kind labels name proc x has args thn els => .agg (.int .i64 id :: .int .i64 kind::QM labels :: .str name :: .str proc::(x.cells++[.bool has,.sl (args.map fun a => .agg a.cells),.sl (S.avs thn),.sl (S.avs els)]))
def S.avs:List S->List AV
 | []=>[]
 | x::r=>S.av x::S.avs r
end
def S.cells (s:S):List AV :=
 [.int .i64 s.id,.int .i64 s.kind,QM s.labels,.str s.name,.str s.proc,.int .i64 s.x.op,.int .i64 s.x.n,.str s.x.name,.sl (X.avs s.x.kids),.bool s.has,.sl (s.args.map fun a => .agg a.cells),.sl (S.avs s.thn),.sl (S.avs s.els)]
theorem S.av_eq (s:S):s.av = .agg s.cells:=by cases s;simp only [S.av,S.cells,X.cells,S.id,S.kind,S.labels,S.name,S.proc,S.x,S.has,S.args,S.thn,S.els,List.cons_append,List.nil_append]
theorem S.avs_eq : ∀ l:List S,S.avs l=l.map fun x => .agg x.cells
 | []=>by simp only [S.avs,map_nil]
 | x::r=>by simp only [S.avs,S.av_eq,S.avs_eq r,map_cons]
def eSs (l:List S):AV := .sl (S.avs l)
def w6o (l:List Arg):AV := .sl (l.map fun a => .agg a.cells)
def Param.cells (a:Param):List AV:=[.str a.name,.bool a.ref]
def Pr.cells (f:Pr):List AV:=[.str f.name,.sl (f.params.map fun a => .agg a.cells),QM f.vars,eSs f.body,QM f.fin]
def Pg.cells (p:Pg):List AV:=[QM p.globals,.sl (p.procs.map fun f => .agg f.cells)]
def Step.cells (s:Step):List AV:=[.int .i64 s.src,.int .i64 s.dst,.int .i64 s.kind]
def QO (l:List Step):AV := .sl (l.map fun s => .agg s.cells)
end Go.Ab
