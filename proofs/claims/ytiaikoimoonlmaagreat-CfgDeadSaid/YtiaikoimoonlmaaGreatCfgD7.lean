/- The table of the types that the program's text names. -/
import Derived.Test.YtiaikoimoonlmaaGreatChecked
import Derived.Deep.Slices
import Derived.Test.YtiaikoimoonlmaaGreatCfgD6
set_option linter.unusedSimpArgs false
set_option linter.unusedVariables false
set_option maxRecDepth 100000
set_option maxHeartbeats 16000000
open List (all_cons any_cons map_cons map_nil)
open Nat (beq ble)
namespace Go.Ab
open Go.Proofs
def ty0:TyI:=⟨Go.TypeDesc.tuple #[],1,0,(.tuple #[])⟩
def ty2:TyI:=⟨Go.TypeDesc.int (Go.IntKind.i64),1,8,(.int .i64 0)⟩
def ty3:TyI:=⟨Go.TypeDesc.int (Go.IntKind.i64),1,8,(.int .i64 0)⟩
def ty4:TyI:=⟨Go.TypeDesc.bool,1,1,(.bool false)⟩
def ty5:TyI:=⟨Go.TypeDesc.int (Go.IntKind.u8),1,1,(.int .u8 0)⟩
def ty9:TyI:=⟨Go.TypeDesc.string,1,16,(.string ByteArray.empty)⟩
def w6j:TyI:=⟨Go.TypeDesc.slice 9,1,24,(.slice none 0 0)⟩
def w6f:TyI:=⟨Go.TypeDesc.slice 90,1,24,(.slice none 0 0)⟩
def w2o:TyI:=⟨Go.TypeDesc.struct #[{ name := "Globals",type:=22,offset:=0,embedded:=false,tag := "",pkgPath := "",byteOffset:=0 },{ name := "Procs",type:=23,offset:=1,embedded:=false,tag := "",pkgPath := "",byteOffset:=24 }],2,48,(.agg #[(.slice none 0 0),(.slice none 0 0)])⟩
def w6p:TyI:=⟨Go.TypeDesc.slice 36,1,24,(.slice none 0 0)⟩
def w3d:TyI:=⟨Go.TypeDesc.struct #[{ name := "Op",type:=3,offset:=0,embedded:=false,tag := "",pkgPath := "",byteOffset:=0 },{ name := "N",type:=2,offset:=1,embedded:=false,tag := "",pkgPath := "",byteOffset:=8 },{ name := "Name",type:=9,offset:=2,embedded:=false,tag := "",pkgPath := "",byteOffset:=16 },{ name := "Kids",type:=34,offset:=3,embedded:=false,tag := "",pkgPath := "",byteOffset:=32 }],4,56,(.agg #[(.int .i64 0),(.int .i64 0),(.string ByteArray.empty),(.slice none 0 0)])⟩
def w6s:TyI:=⟨Go.TypeDesc.slice 126,1,24,(.slice none 0 0)⟩
def w6a:TyI:=⟨Go.TypeDesc.slice 40,1,24,(.slice none 0 0)⟩
def w5k:TyI:=⟨Go.TypeDesc.struct #[{ name := "Id",type:=3,offset:=0,embedded:=false,tag := "",pkgPath := "",byteOffset:=0 },{ name := "Kind",type:=3,offset:=1,embedded:=false,tag := "",pkgPath := "",byteOffset:=8 },{ name := "Labels",type:=22,offset:=2,embedded:=false,tag := "",pkgPath := "",byteOffset:=16 },{ name := "Name",type:=9,offset:=3,embedded:=false,tag := "",pkgPath := "",byteOffset:=40 },{ name := "Proc",type:=9,offset:=4,embedded:=false,tag := "",pkgPath := "",byteOffset:=56 },{ name := "X",type:=36,offset:=5,embedded:=false,tag := "",pkgPath := "",byteOffset:=72 },{ name := "Has",type:=4,offset:=9,embedded:=false,tag := "",pkgPath := "",byteOffset:=128 },{ name := "Args",type:=37,offset:=10,embedded:=false,tag := "",pkgPath := "",byteOffset:=136 },{ name := "Then",type:=38,offset:=11,embedded:=false,tag := "",pkgPath := "",byteOffset:=160 },{ name := "Else",type:=38,offset:=12,embedded:=false,tag := "",pkgPath := "",byteOffset:=184 }],13,208,(.agg #[(.int .i64 0),(.int .i64 0),(.slice none 0 0),(.string ByteArray.empty),(.string ByteArray.empty),(.int .i64 0),(.int .i64 0),(.string ByteArray.empty),(.slice none 0 0),(.bool false),(.slice none 0 0),(.slice none 0 0),(.slice none 0 0)])⟩
def w6c:TyI:=⟨Go.TypeDesc.struct #[{ name := "S",type:=40,offset:=0,embedded:=false,tag := "",pkgPath := "",byteOffset:=0 },{ name := "Deep",type:=3,offset:=13,embedded:=false,tag := "",pkgPath := "",byteOffset:=208 },{ name := "In",type:=3,offset:=14,embedded:=false,tag := "",pkgPath := "",byteOffset:=216 },{ name := "Else",type:=4,offset:=15,embedded:=false,tag := "",pkgPath := "",byteOffset:=224 }],16,232,(.agg #[(.int .i64 0),(.int .i64 0),(.slice none 0 0),(.string ByteArray.empty),(.string ByteArray.empty),(.int .i64 0),(.int .i64 0),(.string ByteArray.empty),(.slice none 0 0),(.bool false),(.slice none 0 0),(.slice none 0 0),(.slice none 0 0),(.int .i64 0),(.int .i64 0),(.bool false)])⟩
def w6r:TyI:=⟨Go.TypeDesc.tuple #[42,9,4],1,0,(.tuple #[(.agg #[(.int .i64 0),(.int .i64 0),(.slice none 0 0),(.string ByteArray.empty),(.string ByteArray.empty),(.int .i64 0),(.int .i64 0),(.string ByteArray.empty),(.slice none 0 0),(.bool false),(.slice none 0 0),(.slice none 0 0),(.slice none 0 0),(.int .i64 0),(.int .i64 0),(.bool false)]),(.string ByteArray.empty),(.bool false)])⟩
def w6i:TyI:=⟨Go.TypeDesc.slice 70,1,24,(.slice none 0 0)⟩
def w6k:TyI:=⟨Go.TypeDesc.slice 2,1,24,(.slice none 0 0)⟩
def w6h:TyI:=⟨Go.TypeDesc.slice 139,1,24,(.slice none 0 0)⟩
def w6y:TyI:=⟨Go.TypeDesc.slice 63,1,24,(.slice none 0 0)⟩
def w6m:TyI:=⟨Go.TypeDesc.struct #[{ name := "End",type:=3,offset:=0,embedded:=false,tag := "",pkgPath := "",byteOffset:=0 },{ name := "Steps",type:=3,offset:=1,embedded:=false,tag := "",pkgPath := "",byteOffset:=8 },{ name := "Reads",type:=3,offset:=2,embedded:=false,tag := "",pkgPath := "",byteOffset:=16 },{ name := "Out",type:=54,offset:=3,embedded:=false,tag := "",pkgPath := "",byteOffset:=24 },{ name := "Trace",type:=58,offset:=4,embedded:=false,tag := "",pkgPath := "",byteOffset:=48 }],5,72,(.agg #[(.int .i64 0),(.int .i64 0),(.int .i64 0),(.slice none 0 0),(.slice none 0 0)])⟩
def w6t:TyI:=⟨Go.TypeDesc.struct #[{ name := "Id",type:=3,offset:=0,embedded:=false,tag := "",pkgPath := "",byteOffset:=0 },{ name := "Vals",type:=54,offset:=1,embedded:=false,tag := "",pkgPath := "",byteOffset:=8 }],2,32,(.agg #[(.int .i64 0),(.slice none 0 0)])⟩
def w6d:TyI:=⟨Go.TypeDesc.slice 42,1,24,(.slice none 0 0)⟩
def w6b:TyI:=⟨Go.TypeDesc.slice 3,1,24,(.slice none 0 0)⟩
def w6e:TyI:=⟨Go.TypeDesc.tuple #[3,3],1,0,(.tuple #[(.int .i64 0),(.int .i64 0)])⟩
def w6n:TyI:=⟨Go.TypeDesc.slice 97,1,24,(.slice none 0 0)⟩
def w4o:TyI:=⟨Go.TypeDesc.struct #[{ name := "Name",type:=9,offset:=0,embedded:=false,tag := "",pkgPath := "",byteOffset:=0 },{ name := "Params",type:=88,offset:=1,embedded:=false,tag := "",pkgPath := "",byteOffset:=16 },{ name := "Vars",type:=22,offset:=2,embedded:=false,tag := "",pkgPath := "",byteOffset:=40 },{ name := "Body",type:=38,offset:=3,embedded:=false,tag := "",pkgPath := "",byteOffset:=64 },{ name := "End",type:=22,offset:=4,embedded:=false,tag := "",pkgPath := "",byteOffset:=88 }],5,112,(.agg #[(.string ByteArray.empty),(.slice none 0 0),(.slice none 0 0),(.slice none 0 0),(.slice none 0 0)])⟩
def w4k:TyI:=⟨Go.TypeDesc.struct #[{ name := "Name",type:=9,offset:=0,embedded:=false,tag := "",pkgPath := "",byteOffset:=0 },{ name := "Ref",type:=4,offset:=1,embedded:=false,tag := "",pkgPath := "",byteOffset:=16 }],2,24,(.agg #[(.string ByteArray.empty),(.bool false)])⟩
def w5g:TyI:=⟨Go.TypeDesc.int (Go.IntKind.i64),1,8,(.int .i64 0)⟩
def w5j:TyI:=⟨Go.TypeDesc.tuple #[60,101],1,0,(.tuple #[(.agg #[(.int .i64 0),(.int .i64 0),(.int .i64 0),(.slice none 0 0),(.slice none 0 0)]),(.int .i64 0)])⟩
def w3a:TyI:=⟨Go.TypeDesc.struct #[{ name := "Code",type:=101,offset:=0,embedded:=false,tag := "",pkgPath := "",byteOffset:=0 },{ name := "At",type:=3,offset:=1,embedded:=false,tag := "",pkgPath := "",byteOffset:=8 }],2,16,(.agg #[(.int .i64 0),(.int .i64 0)])⟩
def w3w:TyI:=⟨Go.TypeDesc.pointer 154,1,8,(.pointer none)⟩
def z8y:TyI:=⟨Go.TypeDesc.struct #[{ name := "Ref",type:=4,offset:=0,embedded:=false,tag := "",pkgPath := "",byteOffset:=0 },{ name := "Name",type:=9,offset:=1,embedded:=false,tag := "",pkgPath := "",byteOffset:=8 },{ name := "X",type:=36,offset:=2,embedded:=false,tag := "",pkgPath := "",byteOffset:=24 }],6,80,(.agg #[(.bool false),(.string ByteArray.empty),(.int .i64 0),(.int .i64 0),(.string ByteArray.empty),(.slice none 0 0)])⟩
def w4e:TyI:=⟨Go.TypeDesc.tuple #[3,4],1,0,(.tuple #[(.int .i64 0),(.bool false)])⟩
def w3n:TyI:=⟨Go.TypeDesc.pointer 137,1,8,(.pointer none)⟩
def w3k:TyI:=⟨Go.TypeDesc.slice 4,1,24,(.slice none 0 0)⟩
def w3r:TyI:=⟨Go.TypeDesc.struct #[{ name := "S",type:=117,offset:=0,embedded:=false,tag := "",pkgPath := "",byteOffset:=0 },{ name := "Proc",type:=3,offset:=1,embedded:=false,tag := "",pkgPath := "",byteOffset:=8 },{ name := "N",type:=3,offset:=2,embedded:=false,tag := "",pkgPath := "",byteOffset:=16 },{ name := "Real",type:=56,offset:=3,embedded:=false,tag := "",pkgPath := "",byteOffset:=24 },{ name := "Live",type:=135,offset:=4,embedded:=false,tag := "",pkgPath := "",byteOffset:=48 }],5,72,(.agg #[(.pointer none),(.int .i64 0),(.int .i64 0),(.slice none 0 0),(.slice none 0 0)])⟩
def w4y:TyI:=⟨Go.TypeDesc.struct #[{ name := "From",type:=3,offset:=0,embedded:=false,tag := "",pkgPath := "",byteOffset:=0 },{ name := "To",type:=3,offset:=1,embedded:=false,tag := "",pkgPath := "",byteOffset:=8 },{ name := "Kind",type:=3,offset:=2,embedded:=false,tag := "",pkgPath := "",byteOffset:=16 }],3,24,(.agg #[(.int .i64 0),(.int .i64 0),(.int .i64 0)])⟩
def w3b:TyI:=⟨Go.TypeDesc.struct #[{ name := "S",type:=40,offset:=0,embedded:=false,tag := "",pkgPath := "",byteOffset:=0 },{ name := "Proc",type:=3,offset:=13,embedded:=false,tag := "",pkgPath := "",byteOffset:=208 },{ name := "Up",type:=3,offset:=14,embedded:=false,tag := "",pkgPath := "",byteOffset:=216 },{ name := "Next",type:=3,offset:=15,embedded:=false,tag := "",pkgPath := "",byteOffset:=224 },{ name := "Loop",type:=3,offset:=16,embedded:=false,tag := "",pkgPath := "",byteOffset:=232 }],17,240,(.agg #[(.int .i64 0),(.int .i64 0),(.slice none 0 0),(.string ByteArray.empty),(.string ByteArray.empty),(.int .i64 0),(.int .i64 0),(.string ByteArray.empty),(.slice none 0 0),(.bool false),(.slice none 0 0),(.slice none 0 0),(.slice none 0 0),(.int .i64 0),(.int .i64 0),(.int .i64 0),(.int .i64 0)])⟩
def w5w:TyI:=⟨Go.TypeDesc.slice 151,1,24,(.slice none 0 0)⟩
def w3j:TyI:=⟨Go.TypeDesc.struct #[{ name := "P",type:=25,offset:=0,embedded:=false,tag := "",pkgPath := "",byteOffset:=0 },{ name := "L",type:=152,offset:=2,embedded:=false,tag := "",pkgPath := "",byteOffset:=48 },{ name := "Lo",type:=70,offset:=3,embedded:=false,tag := "",pkgPath := "",byteOffset:=72 },{ name := "Hi",type:=70,offset:=4,embedded:=false,tag := "",pkgPath := "",byteOffset:=96 }],5,120,(.agg #[(.slice none 0 0),(.slice none 0 0),(.slice none 0 0),(.slice none 0 0),(.slice none 0 0)])⟩
def w5b:TyI:=⟨Go.TypeDesc.pointer 163,1,8,(.pointer none)⟩
def w4p:TyI:=⟨Go.TypeDesc.slice 164,1,24,(.slice none 0 0)⟩
def w3v:TyI:=⟨Go.TypeDesc.slice 218,1,24,(.slice none 0 0)⟩
def w3m:TyI:=⟨Go.TypeDesc.struct #[{ name := "s",type:=117,offset:=0,embedded:=false,tag := "",pkgPath := "whittler/run",byteOffset:=0 },{ name := "globals",type:=160,offset:=1,embedded:=false,tag := "",pkgPath := "whittler/run",byteOffset:=8 },{ name := "tape",type:=54,offset:=2,embedded:=false,tag := "",pkgPath := "whittler/run",byteOffset:=32 },{ name := "watch",type:=70,offset:=3,embedded:=false,tag := "",pkgPath := "whittler/run",byteOffset:=56 },{ name := "stack",type:=161,offset:=4,embedded:=false,tag := "",pkgPath := "whittler/run",byteOffset:=80 },{ name := "vals",type:=54,offset:=5,embedded:=false,tag := "",pkgPath := "whittler/run",byteOffset:=104 },{ name := "r",type:=60,offset:=6,embedded:=false,tag := "",pkgPath := "whittler/run",byteOffset:=128 }],11,200,(.agg #[(.pointer none),(.slice none 0 0),(.slice none 0 0),(.slice none 0 0),(.slice none 0 0),(.slice none 0 0),(.int .i64 0),(.int .i64 0),(.int .i64 0),(.slice none 0 0),(.slice none 0 0)])⟩
def w4s:TyI:=⟨Go.TypeDesc.pointer 2,1,8,(.pointer none)⟩
def w3y:TyI:=⟨Go.TypeDesc.slice 227,1,24,(.slice none 0 0)⟩
def w5v:TyI:=⟨Go.TypeDesc.func #[90] #[4] false,1,8,.nilFunc⟩
def w3o:TyI:=⟨Go.TypeDesc.func #[9] #[4] false,1,8,.nilFunc⟩
def w4d:TyI:=⟨Go.TypeDesc.pointer 215,1,8,(.pointer none)⟩
def w4z:TyI:=⟨Go.TypeDesc.struct #[{ name := "seen",type:=3,offset:=0,embedded:=false,tag := "",pkgPath := "whittler/tree",byteOffset:=0 }],1,8,(.agg #[(.int .i64 0)])⟩
def w4u:TyI:=⟨Go.TypeDesc.pointer 220,1,8,(.pointer none)⟩
def w3e:TyI:=⟨Go.TypeDesc.struct #[{ name := "proc",type:=3,offset:=0,embedded:=false,tag := "",pkgPath := "whittler/run",byteOffset:=0 },{ name := "names",type:=22,offset:=1,embedded:=false,tag := "",pkgPath := "whittler/run",byteOffset:=8 },{ name := "vars",type:=160,offset:=2,embedded:=false,tag := "",pkgPath := "whittler/run",byteOffset:=32 },{ name := "call",type:=3,offset:=3,embedded:=false,tag := "",pkgPath := "whittler/run",byteOffset:=56 }],4,64,(.agg #[(.int .i64 0),(.slice none 0 0),(.slice none 0 0),(.int .i64 0)])⟩
def w5q:TyI:=⟨Go.TypeDesc.tuple #[2,4],1,0,(.tuple #[(.int .i64 0),(.bool false)])⟩
def w4x:TyI:=⟨Go.TypeDesc.array 2 3,2,16,(.agg #[(.int .i64 0),(.int .i64 0)])⟩
def w5u:TyI:=⟨Go.TypeDesc.tuple #[22,4],1,0,(.tuple #[(.slice none 0 0),(.bool false)])⟩
def w3c:TyI:=⟨Go.TypeDesc.map 9 22,1,8,(.map none)⟩
def w5z:TyI:=⟨Go.TypeDesc.pointer 273,1,8,(.pointer none)⟩
def w3i:TyI:=⟨Go.TypeDesc.int (Go.IntKind.u64),1,8,(.int .u64 0)⟩
def w5h:TyI:=⟨Go.TypeDesc.struct #[{ name := "next",type:=47,offset:=0,embedded:=false,tag := "",pkgPath := "whittler/graph",byteOffset:=0 },{ name := "prev",type:=47,offset:=1,embedded:=false,tag := "",pkgPath := "whittler/graph",byteOffset:=24 }],2,48,(.agg #[(.slice none 0 0),(.slice none 0 0)])⟩
def w4n:TyI:=⟨Go.TypeDesc.func #[139,139] #[4] false,1,8,.nilFunc⟩
def w5x:TyI:=⟨Go.TypeDesc.int (Go.IntKind.i64),1,8,(.int .i64 0)⟩
def w4b:TyI:=⟨Go.TypeDesc.tuple #[3,285],1,0,(.tuple #[(.int .i64 0),(.int .i64 0)])⟩
def w3g:TyI:=⟨Go.TypeDesc.int (Go.IntKind.u64),1,8,(.int .u64 0)⟩
def w4m:TyI:=⟨Go.TypeDesc.func #[139,139] #[3] false,1,8,.nilFunc⟩
def w4a:TyI:=⟨Go.TypeDesc.int (Go.IntKind.u64),1,8,(.int .u64 0)⟩
def w4l:TyI:=⟨Go.TypeDesc.pointer 3,1,8,(.pointer none)⟩
def w4f:TyI:=⟨Go.TypeDesc.pointer 318,1,8,(.pointer none)⟩
def tab:Tab:=[(0,ty0),(2,ty2),(3,ty3),(4,ty4),(5,ty5),(9,ty9),(22,w6j),(23,w6f),(25,w2o),(34,w6p),(36,w3d),(37,w6s),(38,w6a),(40,w5k),(42,w6c),(43,w6r),(47,w6i),(54,w6k),(56,w6h),(58,w6y),(60,w6m),(63,w6t),(67,w6d),(70,w6b),(74,w6e),(88,w6n),(90,w4o),(97,w4k),(101,w5g),(102,w5j),(112,w3a),(117,w3w),(126,z8y),(128,w4e),(133,w3n),(135,w3k),(137,w3r),(139,w4y),(151,w3b),(152,w5w),(154,w3j),(158,w5b),(160,w4p),(161,w3v),(163,w3m),(164,w4s),(171,w3y),(183,w5v),(211,w3o),(213,w4d),(215,w4z),(218,w4u),(220,w3e),(222,w5q),(227,w4x),(238,w5u),(241,w3c),(244,w5z),(254,w3i),(273,w5h),(281,w4n),(285,w5x),(286,w4b),(295,w3g),(297,w4m),(318,w4a),(322,w4l),(340,w4f)]
theorem QU:TabOK Tryz.prog tab:=by
 repeat refine TabOK.cons (by kernel_rfl) (by kernel_rfl) ?_
 exact TabOK.nil _
theorem mixed:Tryz.prog.follows .mixedOrders=true:=by kernel_rfl
def QT (t:List (Nat×List Nat)) (i:Nat):List Nat :=
 match t with
 | []=>[]
 | (j,l)::r=>bif beq j i then l else QT r i
def QW (t:List (Nat×List (List Nat))) (i:Nat):List (List Nat) :=
 match t with
 | []=>[]
 | (j,l)::r=>bif beq j i then l else QW r i
def QZ (t:List (Nat×Sched)) (i:Nat):Sched :=
 match t with
 | [] => .nil
 | (j,l)::r=>bif beq j i then l else QZ r i
@[reducible] def sT (i:Nat) (r:Sched):Sched := .cons i true r
@[reducible] def sF (i:Nat) (r:Sched):Sched := .cons i false r
def JM:Info:=⟨QT [(16,[6]),(15,[1,2,3,7,34,35,36]),(14,[1,2,3,7,34,35,36]),(13,[1,2,3,7,10,34,35,36]),(12,[1,2,3,7,10,34,35,36]),(11,[1,2,3,7,9,34,35,36,57]),(10,[1,2,3,7,9,34,35,36]),(9,[1,2,3,7,34,35,36,37]),(8,[1,2,3,7,34,35,36]),(7,[1,2,3,7]),(6,[6]),(5,[1,2,3,31]),(4,[6]),(3,[1,2,3,15]),(2,[6]),(1,[1,2,3,12]),(0,[1,2,3])],QZ [(11,(sT 1 (sT 2 (sT 3 (sT 4 (sF 0 (sF 7 (sF 8 (sF 9 (sT 5 (sT 6 (sT 10 (sT 11 (sT 12 (sT 13 (sT 14 (sT 15 (sT 16 (sT 17 .nil))))))))))))))))))),(16,(sT 0 (sT 1 (sT 2 (sT 3 (sT 4 (sT 5 (sF 8 (sF 9 (.fork 6 (sT 7 (sT 10 (sT 11 (sT 12 (sT 13 .nil))))) 7 (sT 6 (sT 10 (sT 11 (sT 12 (sT 13 .nil)))))))))))))))],QW [(0,[[3]]),(10,[[9]])]⟩
def DZ:Info:=⟨QT [(12,[2]),(4,[1,3,4]),(11,[1,3,4]),(9,[1,3,4,5,6]),(10,[1,3,4,5,6]),(8,[1,3,4,5,6,44]),(7,[1,3,4,5,6]),(6,[1,3,4,5]),(5,[1,3,4,5]),(3,[1,3,4,18]),(2,[1,3,4]),(1,[1,3]),(0,[1])],QZ [(6,(sT 4 (sT 5 (sT 6 (sF 0 (sF 1 (sF 2 (sF 3 (sT 7 (sT 8 (sT 9 (sT 10 .nil))))))))))))],QW [(0,[[1]]),(5,[[5]])]⟩
def x1p:Info:=⟨QT [(1,[2]),(0,[1])],QZ [],QW [(0,[[1]])]⟩
def q7o:Info:=⟨QT [(7,[2]),(6,[3,7,8,9]),(5,[3,7,8,9]),(4,[3,5,7,8,9]),(3,[3,7,8,9,10]),(2,[3,7,8,9]),(1,[1,3]),(0,[1])],QZ [],QW [(0,[[1]]),(4,[[5]])]⟩
def FU:Info:=⟨QT [(11,[4,5,6]),(10,[1,4,12,13,14]),(9,[1,4,8,12,13,14,19,20,21]),(8,[4,5,6]),(7,[1,4,8,10,12,13,14,19,20,21,29]),(6,[1,4,8,10,12,13,14,19,20,21]),(5,[1,4,8,12,13,14,19,20,21,22]),(4,[1,4,8,12,13,14,19,20,21]),(3,[1,4,8,12,13,14]),(2,[1,4,12,13,14,15]),(1,[1,4,12,13,14]),(0,[1,2,4])],QZ [(8,(sT 0 (sF 1 (sF 2 (sT 3 (sT 4 (sT 5 .nil)))))))],QW [(0,[[2]]),(3,[[8]]),(6,[[10]])]⟩
def JC:Info:=⟨QT [(4,[0]),(3,[1,2,3,4,5]),(2,[1,2,3]),(1,[1]),(0,[])],QZ [],QW [(1,[[1]])]⟩
def z4z:Info:=⟨QT [(4,[4]),(3,[4]),(2,[5,10]),(1,[5]),(0,[1,2])],QZ [],QW [(0,[[2]])]⟩
def GQ:Info:=⟨QT [(2,[6]),(1,[6,7]),(0,[1,2,3,6])],QZ [(1,(sF 0 (sF 1 (sF 2 (sF 3 (.fork 4 (.fork 5 (sF 6 (sF 7 (sF 8 (sT 9 (sT 10 (sT 11 .nil)))))) 9 (sT 5 (sT 6 (sT 7 (sF 8 (sT 10 (sT 11 .nil))))))) 9 (sT 4 (sT 5 (sT 6 (sT 7 (sF 8 (sT 10 (sT 11 .nil)))))))))))))],QW [(0,[[3]]),(1,[[7]])]⟩
def GH:Info:=⟨QT [(1,[4]),(0,[1,2])],QZ [],QW [(0,[[2]])]⟩
def DI:Info:=⟨QT [(9,[2]),(8,[3,7,8,9]),(7,[2]),(6,[3,7,8,9,19]),(5,[3,7,8,9]),(4,[3,5,7,8,9]),(3,[3,7,8,9,10]),(2,[3,7,8,9]),(1,[1,3]),(0,[1])],QZ [],QW [(0,[[1]]),(4,[[5]])]⟩
def FF:Info:=⟨QT [(7,[4]),(6,[1,7,8,9]),(5,[4]),(4,[1,7,8,9,15]),(3,[1,6,7,8,9]),(2,[1,7,8,9,10]),(1,[1,7,8,9]),(0,[0,1])],QZ [],QW []⟩
def x6i:Info:=⟨QT [(10,[4]),(7,[5,6,7]),(9,[5,6,7]),(8,[5,6,7,28]),(6,[5,6,7,19]),(5,[5,6,7]),(4,[5,6]),(3,[4]),(2,[5,12]),(1,[5]),(0,[1,2])],QZ [],QW [(0,[[2]])]⟩
def GL:Info:=⟨QT [(2,[4]),(1,[6]),(0,[1,2])],QZ [],QW [(0,[[2]]),(1,[[5]])]⟩
def DF:Info:=⟨QT [(9,[4]),(8,[3,4,5,14,15,16]),(7,[3,4,5,14,15,16]),(6,[3,4,5,8,14,15,16]),(5,[3,4,5,7,8,14,15,16]),(4,[3,4,5,7,14,15,16]),(3,[3,4,5,14,15,16,17]),(2,[3,4,5,14,15,16]),(1,[2,3,4,5]),(0,[2,3,4])],QZ [(5,(sF 0 (sF 1 (sF 2 (sF 3 (sF 5 (sF 6 (sF 8 (sF 9 (sF 10 (.fork 4 (.fork 7 (.fork 11 (sF 12 (sT 13 (sT 14 .nil))) 13 (sT 11 (sT 12 (sT 14 .nil)))) 13 (sT 7 (sT 11 (sT 12 (sT 14 .nil))))) 13 (sT 4 (sT 7 (sT 11 (sT 12 (sT 14 .nil))))))))))))))))],QW [(0,[[2],[3]]),(4,[[7]])]⟩
def GK:Info:=⟨QT [(1,[4]),(0,[2,3])],QZ [],QW [(0,[[2],[3]])]⟩
def FI:Info:=⟨QT [(1,[2]),(0,[1])],QZ [],QW [(0,[[1]])]⟩
def DD:Info:=⟨QT [(8,[4]),(7,[1,5,9,10,11]),(6,[1,5,9,10,11]),(5,[1,5,7,9,10,11,23]),(4,[1,5,7,9,10,11]),(3,[1,5,9,10,11,12]),(2,[1,5,9,10,11]),(1,[1,2,5]),(0,[1,2])],QZ [],QW [(0,[[2]]),(4,[[7]])]⟩
def I_run_Of:Info:=⟨QT [(27,[8,9]),(26,[8,10,126]),(25,[8,10]),(24,[8,10,12,117]),(20,[8,10,12]),(23,[8,10,12,111]),(22,[8,10,12]),(18,[8,10,12]),(21,[8,10,11,12,100]),(19,[8,10,11,12,90,94]),(17,[8,10,11,12,90]),(16,[8,10,11,12]),(15,[8,10,11,12,13]),(14,[8,10,11,12,13]),(13,[8,10,11,12,13,63]),(12,[2,8,10,11,12,13]),(11,[2,8,10,11,12,13,56]),(10,[2,8,10,11,12,13]),(9,[2,8,10,11,12]),(8,[2,8,10,11]),(7,[2,8,10,34,35]),(6,[2,8,10,34,35]),(5,[2,8,10,34,35,36]),(4,[2,8,10,34,35]),(3,[2,4,8,10]),(2,[8,9]),(1,[1,2,3,4,8,24]),(0,[1,2,3,4,8])],QZ [],QW [(0,[[4]])]⟩
def FN:Info:=⟨QT [(3,[0]),(2,[0,1,2]),(1,[0,1]),(0,[0])],QZ [],QW [(1,[[1]]),(2,[[2]])]⟩
def YM:Info:=⟨QT [(5,[4]),(3,[0,1,5]),(4,[0,1,5]),(2,[0,1,5,13]),(1,[0,1,5]),(0,[0,1])],QZ [],QW []⟩
def YT:Info:=⟨QT [(3,[4]),(2,[4]),(1,[0,1,13]),(0,[0,1])],QZ [],QW []⟩
def YN:Info:=⟨QT [(11,[4]),(3,[0,1,5]),(10,[0,1,5]),(8,[0,1,5,6,7]),(9,[0,1,5,6,7]),(7,[0,1,5,6,7,43]),(6,[0,1,5,6,7]),(5,[0,1,5,6]),(4,[0,1,5,6]),(2,[0,1,5,15]),(1,[0,1,5]),(0,[0,1])],QZ [(5,(sT 6 (sT 7 (sT 8 (sF 0 (sF 1 (sF 2 (sF 3 (sF 4 (sF 5 (sT 9 (sT 10 (sT 11 (sT 12 (sT 13 .nil))))))))))))))),(9,(sT 6 (sT 7 (sT 8 (sT 9 (sT 10 (sT 11 (sT 12 (sF 0 (sF 1 (sF 2 (sF 3 (sF 4 (sF 5 (sT 13 (sT 14 (sT 15 .nil))))))))))))))))),(10,(sT 2 (sT 3 (sT 4 (sF 0 (sF 1 (sT 5 (sT 6 (sT 7 .nil)))))))))],QW [(4,[[6]])]⟩
def x2y:Info:=⟨QT [(10,[2]),(9,[2,3]),(8,[1,2,3,22]),(7,[1,2,3]),(6,[1,2,3,17]),(5,[1,2,3]),(4,[1,2,3,12]),(3,[1,2,3]),(2,[2]),(1,[1,2,6]),(0,[1,2])],QZ [],QW [(0,[[1]])]⟩
def x1q:Info:=⟨QT [(7,[2]),(6,[0,3,8,9]),(5,[0,3,8,9]),(4,[0,3,4,8,9]),(3,[0,3,8,9,10]),(2,[0,3,8,9]),(1,[0,3]),(0,[0])],QZ [(5,(sT 1 (sT 2 (sT 3 (sT 4 (sT 5 (sF 0 (sF 7 (sF 8 (sF 9 (sF 10 (sF 11 (sT 6 (sT 12 (sT 13 (sT 14 (sT 15 .nil)))))))))))))))))],QW []⟩
def PF:Info:=⟨QT [(1,[4]),(0,[0,3])],QZ [],QW [(0,[[3]])]⟩
def MO:Info:=⟨QT [(1,[4]),(0,[0,1])],QZ [],QW []⟩
def q9q:Info:=⟨QT [(6,[4,5]),(5,[4,5]),(4,[1,6,15]),(3,[1,6]),(2,[4,5]),(1,[1,2,9]),(0,[1,2])],QZ [],QW [(0,[[2]])]⟩
def x1l:Info:=⟨QT [(4,[4,5]),(3,[4,5]),(2,[6,11]),(1,[6]),(0,[1,2])],QZ [(4,(sT 0 (sT 1 (sT 2 (sT 3 (sT 4 (sT 5 (sT 6 (sT 7 (sT 8 (sT 9 (sT 10 .nil))))))))))))],QW [(0,[[2]])]⟩
def x8w:Info:=⟨QT [(15,[2]),(14,[4]),(13,[1,3,4,5,15,16,17]),(12,[1,3,4,5,15,16,17]),(11,[1,3,4,5,7,15,16,17,33]),(10,[1,3,4,5,6,7,15,16,17]),(9,[1,3,4,5,15,16,17,18]),(8,[1,3,4,5,15,16,17]),(7,[1,3,4,5]),(6,[1,3,4,13]),(5,[1,3,4,5]),(4,[1,3,4]),(3,[1,3]),(2,[2]),(1,[1,10]),(0,[1])],QZ [],QW [(0,[[1]]),(10,[[7]])]⟩
def HL:Info:=⟨QT [(2,[2]),(1,[0,3]),(0,[0])],QZ [],QW []⟩
def z4e:Info:=⟨QT [(6,[4]),(5,[4]),(4,[1,5,14]),(3,[1,5]),(2,[4]),(1,[1,2,8]),(0,[1,2])],QZ [],QW [(0,[[2]])]⟩
def q2v:Info:=⟨QT [(6,[4]),(3,[4]),(5,[4]),(4,[0,1,8]),(2,[0,1,5,6]),(1,[0,1,5]),(0,[0,1])],QZ [(6,(sT 0 (sT 1 (sT 2 (sT 3 (sT 4 (sT 5 (sT 6 (sT 7 (sT 8 (sT 9 (sT 10 (sT 11 (sT 12 (sT 13 (sT 14 (sT 15 (sT 16 .nil))))))))))))))))))],QW []⟩
def DM:Info:=⟨QT [(11,[4]),(10,[3,5,9,10,11]),(9,[3,5,9,10,11]),(8,[3,5,8,9,10,11]),(7,[3,5,7,8,9,10,11]),(6,[3,5,7,8,9,10,11,21]),(5,[3,5,7,8,9,10,11]),(4,[3,5,7,9,10,11]),(3,[3,5,9,10,11,12]),(2,[3,5,9,10,11]),(1,[0,3,5]),(0,[0,3])],QZ [(8,(sT 0 (sT 1 (sT 2 (sF 4 (sF 5 (sF 6 (sT 3 (sF 8 (sT 7 (sT 9 (sT 10 (sT 11 .nil)))))))))))))],QW [(0,[[3]]),(4,[[7]])]⟩
def GF:Info:=⟨QT [(1,[4]),(0,[2,3])],QZ [],QW [(0,[[2],[3]])]⟩
def KU:Info:=⟨QT [(9,[4]),(8,[0,1,12,13]),(7,[4]),(6,[0,1,12,13,40]),(5,[0,1,5,12,13]),(4,[0,1,12,13,14]),(3,[0,1,12,13]),(2,[4]),(1,[0,1,10]),(0,[0,1])],QZ [(6,(sT 0 (sT 1 (sT 2 (sT 3 (sT 4 (sT 5 (sT 6 (sT 7 (sT 8 (sT 9 (sT 10 (sT 11 (sT 12 (sT 13 (sT 14 (sT 15 (sT 16 (sT 17 (sT 18 (sT 19 (sT 20 (sT 21 (sT 22 (sT 23 (sT 24 .nil))))))))))))))))))))))))))],QW []⟩
def x6z:Info:=⟨QT [(18,[2]),(17,[3,27,28,29]),(16,[2]),(15,[3,27,28,29,77]),(14,[3,5,27,28,29,62,63,64]),(13,[2]),(12,[3,5,27,28,29,62,63,64,71]),(11,[3,5,7,27,28,29,62,63,64]),(10,[3,5,27,28,29,62,63,64,65]),(9,[3,5,27,28,29,62,63,64]),(8,[2]),(7,[3,5,27,28,29,60]),(6,[3,5,27,28,29]),(5,[3,27,28,29,30]),(4,[3,27,28,29]),(3,[1,3]),(2,[2]),(1,[1,23]),(0,[1])],QZ [],QW [(0,[[1]]),(6,[[5]]),(11,[[7]])]⟩
def x0w:Info:=⟨QT [(13,[6]),(12,[6]),(11,[36]),(10,[6]),(9,[2,3,32]),(8,[2,3,4,10,11,12]),(7,[6]),(6,[2,3,4,10,11,12,27]),(5,[6]),(4,[2,3,4,8,10,11,12,23]),(3,[2,3,4,8,10,11,12]),(2,[2,3,4,10,11,12,13]),(1,[2,3,4,10,11,12]),(0,[2,3,4])],QZ [],QW [(0,[[3],[4]]),(3,[[8]])]⟩
def UI:Info:=⟨QT [(8,[10]),(3,[0,1,2,3,4,11]),(7,[0,1,2,3,4,11]),(6,[0,1,2,3,4,11]),(5,[0,1,2,3,4,11,35]),(4,[0,1,2,3,4,11]),(2,[0,1,2,3,4,11,20]),(1,[0,1,2,3,4,11]),(0,[0,1,2,3,4])],QZ [(6,(sT 0 (sT 1 (sT 2 (sT 3 (sT 4 (sT 5 (sT 6 (sT 7 (sT 8 (sT 9 (sT 10 (sT 11 (sT 12 (sT 13 (sT 14 .nil)))))))))))))))),(7,(sT 0 (sT 1 (sT 2 (sT 3 (sT 4 (sT 5 (sT 6 (sT 7 (sT 8 (sT 9 (sT 10 (sT 11 (sT 12 (sT 13 (sT 14 .nil))))))))))))))))],QW []⟩
def x6d:Info:=⟨QT [(9,[2]),(8,[3,10,11,12]),(7,[3,10,11,12]),(6,[3,10,11,12]),(5,[3,4,5,10,11,12]),(4,[3,4,5,10,11,12]),(3,[3,10,11,12,13]),(2,[3,10,11,12]),(1,[1,3]),(0,[1])],QZ [(5,(sT 5 (sT 6 (sT 7 (sT 8 (sT 9 (sT 10 (sF 0 (sF 1 (sF 2 (sF 3 (.fork 4 (sT 11 (sT 12 (sT 13 (sT 14 (sT 15 .nil))))) 11 (sT 4 (sT 12 (sT 13 (sT 14 (sT 15 .nil))))))))))))))))),(7,(sT 5 (sT 6 (sT 7 (sT 8 (sT 9 (sT 10 (sF 0 (sF 1 (sF 2 (sF 3 (.fork 4 (sT 11 (sT 12 (sT 13 (sT 14 (sT 15 .nil))))) 11 (sT 4 (sT 12 (sT 13 (sT 14 (sT 15 .nil)))))))))))))))))],QW [(0,[[1]]),(4,[[5]])]⟩
def DO:Info:=⟨QT [(9,[8]),(8,[0,1]),(7,[0,1,10,52,53]),(6,[0,1,10,52,53]),(5,[0,1,10,52,53,54]),(4,[0,1,10,52,53]),(3,[0,1,9,10]),(2,[0,1,2,9,10]),(1,[0,1,2,3,9]),(0,[0,1,2,3])],QZ [(2,(sT 1 (sT 2 (sT 3 (sT 4 (sT 5 (sT 6 (sT 7 (sT 8 (sT 9 (sF 0 (sF 11 (sT 10 (sT 12 (sT 13 (sT 14 .nil)))))))))))))))),(3,(sT 1 (sT 2 (sT 3 (sT 4 (sT 5 (sT 6 (sT 7 (sT 8 (sF 0 (sF 10 (sT 9 (sT 11 (sT 12 (sT 13 (sT 14 .nil))))))))))))))))],QW [(1,[[9]])]⟩
def I_run_machine_call:Info:=⟨QT [(17,[4]),(16,[0,3,5]),(15,[4]),(14,[]),(13,[0,3,5,46]),(12,[0,3,5,12,13,14]),(11,[0,3,5,12,13,14]),(10,[0,3,5,10,12,13,14]),(9,[4]),(8,[0,3,5,8,12,13,14,35]),(7,[0,3,5,8,9,12,13,14]),(6,[0,3,5,12,13,14]),(5,[0,3,5,7,12,13,14,19]),(4,[0,3,5,7,12,13,14]),(3,[0,3,5,12,13,14,15]),(2,[0,3,5,12,13,14]),(1,[0,3,5]),(0,[0,3])],QZ [(17,(sT 1 (sT 2 (sT 3 (sT 4 (sT 5 (sT 6 (sF 0 (sF 8 (sF 9 (sF 10 (sT 7 (sT 11 (sT 12 .nil))))))))))))))],QW [(0,[[3]]),(4,[[7]]),(10,[[10]])]⟩
def FJ:Info:=⟨QT [(7,[4]),(6,[5]),(5,[0,3,5,21]),(4,[0,3,5,6]),(3,[4]),(2,[]),(1,[0,3,9]),(0,[0,3])],QZ [],QW [(0,[[3]])]⟩
def LQ:Info:=⟨QT [(38,[4]),(28,[3]),(30,[3]),(34,[4]),(33,[4]),(32,[3,5,154]),(37,[4]),(36,[3,5,168]),(35,[3,5,9,165]),(31,[3,5,9,128,151]),(29,[0,3,5,9,128,137]),(27,[0,3,5,9,128,129]),(26,[0,3,5,9,128]),(25,[0,3,5,9]),(24,[4]),(23,[0,3,5,9,120]),(22,[0,3,5,9,10]),(5,[4]),(4,[0,3]),(8,[4]),(7,[3]),(12,[4]),(11,[6]),(10,[0,3,5]),(21,[4]),(20,[3]),(19,[0,3,5,8]),(18,[0,3,5,8]),(17,[0,3,5,8]),(16,[4]),(15,[]),(14,[0,3,5,73]),(13,[0,3,5,61]),(9,[0,3,5,14,42]),(6,[0,3,5,14,34]),(3,[0,3,5,14,15]),(2,[0,3,5,14]),(1,[0,3,5]),(0,[0,3])],QZ [(5,(sT 0 (sT 1 (sT 2 (sT 3 (sT 4 (sT 5 (sT 6 (sT 7 (sT 8 (sT 9 (sT 10 (sT 11 (sT 12 (sT 13 .nil))))))))))))))),(11,(sT 0 (sT 1 (sT 2 (sT 3 (sT 4 (sT 5 (sT 6 (sT 7 (sT 8 (sT 9 (sT 10 (sT 11 (sT 12 (sT 13 .nil))))))))))))))),(14,(sT 0 (sT 1 (sT 2 (sT 3 (sT 4 (sT 5 (sT 6 (sT 7 (sT 8 (sT 9 (sT 10 .nil)))))))))))),(17,(sT 0 (sT 1 (sT 2 (sT 3 (sT 4 (sT 5 (sT 6 (sT 7 (sT 8 (sT 9 (sT 10 (sT 11 .nil)))))))))))))],QW [(0,[[3]]),(1,[[5]])]⟩
def FW:Info:=⟨QT [(9,[4]),(8,[6]),(7,[0,1,6,46]),(6,[0,1,6]),(5,[4]),(4,[]),(3,[0,1,5,27]),(2,[0,1,5]),(1,[0,1,5]),(0,[0,1])],QZ [(2,(sT 0 (sT 1 (sT 2 (sT 3 (sT 4 (sT 5 (sT 6 (sT 7 (sT 8 (sT 9 (sT 10 (sT 11 (sT 12 (sT 13 (sT 14 .nil))))))))))))))))],QW [(6,[[6]])]⟩
def GW:Info:=⟨QT [(7,[4]),(2,[4]),(4,[4]),(6,[4]),(5,[0,1,16]),(3,[0,1,8]),(1,[0,1,5]),(0,[0,1])],QZ [(5,(sT 0 (sT 1 (sT 2 (sT 3 (sT 4 (sT 5 (sT 6 (sT 7 (sT 8 (sT 9 (sT 10 (sT 11 (sT 12 (sT 13 (sT 14 (sT 15 (sT 16 (sT 17 (sT 18 (sT 19 (sT 20 (sT 21 (sT 22 (sT 23 (sT 24 (sT 25 (sT 26 (sT 27 (sT 28 (sT 29 (sT 30 (sT 31 (sT 32 .nil)))))))))))))))))))))))))))))))))),(6,(sT 0 (sT 1 (sT 2 (sT 3 (sT 4 (sT 5 (sT 6 (sT 7 (sT 8 (sT 9 (sT 10 (sT 11 (sT 12 (sT 13 (sT 14 (sT 15 (sT 16 .nil))))))))))))))))))],QW []⟩
def BN:Info:=⟨QT [(1,[2]),(0,[0,2])],QZ [],QW []⟩
def FP:Info:=⟨QT [(1,[2]),(0,[0,2])],QZ [],QW []⟩
def BK:Info:=⟨QT [(1,[6]),(0,[0,4,5,6])],QZ [],QW [(0,[[4],[5]])]⟩
def JU:Info:=⟨QT [(6,[4]),(4,[1,2,5]),(5,[1,2,5]),(3,[1,2,5,18]),(2,[1,2,5]),(1,[1,2]),(0,[1,2])],QZ [],QW [(0,[[2]])]⟩
def q7g:Info:=⟨QT [(26,[2]),(25,[1,2,3,7,57,58,59]),(24,[1,2,3,7,9,57,58,59,76,77,78]),(23,[2]),(22,[1,2,3,7,9,12,57,58,59,76,77,78,88]),(21,[1,2,3,7,9,12,57,58,59,76,77,78]),(20,[1,2,3,7,9,57,58,59,76,77,78,79]),(19,[1,2,3,7,9,57,58,59,76,77,78]),(18,[2]),(17,[1,2,3,7,8,9,57,58,59,72]),(16,[1,2,3,7,8,9,10,57,58,59]),(15,[1,2,3,7,8,9,57,58,59]),(14,[1,2,3,7,57,58,59,60]),(13,[1,2,3,7,57,58,59]),(12,[1,2,3,7]),(11,[2]),(10,[1,2,3,52]),(9,[1,2,3,6]),(8,[1,2,3,18,19,20]),(7,[1,2,3,18,19,20]),(6,[1,2,3,5,18,19,20]),(5,[1,2,3,18,19,20,21]),(4,[1,2,3,18,19,20]),(3,[1,2,3]),(2,[2]),(1,[1,2,15]),(0,[1,2])],QZ [],QW [(0,[[1]]),(6,[[5]]),(15,[[9]]),(21,[[12]])]⟩
def q7q:Info:=⟨QT [(9,[2]),(8,[1,2,14,15,16]),(7,[2]),(6,[1,2,4,14,15,16,30]),(5,[1,2,4,14,15,16]),(4,[1,2,14,15,16,17]),(3,[1,2,14,15,16]),(2,[2]),(1,[1,2,8]),(0,[1,2])],QZ [],QW [(0,[[1]]),(5,[[4]])]⟩
def q8m:Info:=⟨QT [(20,[2]),(19,[2,3,16,17,18]),(18,[2]),(17,[2,3,16,17,18,60]),(16,[2,3,7,16,17,18]),(15,[2,3,5,6,16,17,18,25,26,27]),(14,[2]),(13,[2,3,5,6,9,16,17,18,25,26,27,46]),(12,[2,3,5,6,7,9,16,17,18,25,26,27]),(11,[2,3,5,6,9,16,17,18,25,26,27]),(10,[2,3,5,6,16,17,18,25,26,27,28]),(9,[2,3,5,6,16,17,18,25,26,27]),(8,[2,3,4,5,6,16,17,18]),(7,[2,3,4,5,6,16,17,18]),(6,[2,3,4,5,16,17,18]),(5,[2,3,16,17,18,19]),(4,[2,3,16,17,18]),(3,[2]),(2,[1,2,3,13]),(1,[1,2,3]),(0,[1,2])],QZ [],QW [(0,[[1]]),(6,[[5]]),(11,[[9]])]⟩
def q7l:Info:=⟨QT [(15,[2]),(14,[2,3,33,34,35]),(13,[2]),(12,[2,3,7,33,34,35,53]),(11,[2,3,7,33,34,35]),(10,[2,3,33,34,35,36]),(9,[2,3,33,34,35]),(8,[1,2,3,15,16,17]),(7,[1,2,3,15,16,17]),(6,[1,2,3,5,15,16,17]),(5,[1,2,3,15,16,17,18]),(4,[1,2,3,15,16,17]),(3,[1,2,3]),(2,[2]),(1,[1,2,11]),(0,[1,2])],QZ [(7,(sT 3 (sT 4 (sT 5 (sF 0 (sF 1 (sF 2 (sT 6 (sT 7 .nil)))))))))],QW [(0,[[1]]),(6,[[5]]),(11,[[7]])]⟩
def z2f:Info:=⟨QT [(8,[4]),(7,[5,46,47,48]),(6,[5,46,47,48]),(5,[5,7,46,47,48]),(4,[5,46,47,48,49]),(3,[5,46,47,48]),(2,[5]),(1,[5]),(0,[0,1])],QZ [(1,(sT 18 (sT 19 (sF 0 (sF 1 (sF 2 (sF 3 (sF 4 (sF 5 (sF 6 (sF 7 (sF 8 (sF 9 (sF 10 (sF 11 (sF 12 (sF 13 (sF 14 (sF 15 (sF 16 (sF 17 (sT 20 (sT 21 (sT 22 (sT 23 .nil)))))))))))))))))))))))))],QW []⟩
def ZS:Info:=⟨QT [(7,[4]),(6,[0,1,7,8]),(5,[4]),(4,[0,1,5,7,8,16]),(3,[0,1,5,7,8]),(2,[0,1,7,8,9]),(1,[0,1,7,8]),(0,[0,1])],QZ [],QW []⟩
def DW:Info:=⟨QT [(1,[3]),(0,[1,2])],QZ [],QW [(0,[[2]])]⟩
def BZ:Info:=⟨QT [(3,[4]),(2,[4]),(1,[0,1,19]),(0,[0,1])],QZ [(1,(sT 0 (sT 1 (sT 2 (sT 3 (sT 4 (sT 5 (sT 6 (sT 7 (sT 8 (sT 9 (sT 10 (sT 11 (sT 12 (sT 13 (sT 14 .nil))))))))))))))))],QW []⟩
def WS:Info:=⟨QT [(1,[4]),(0,[0,1])],QZ [],QW []⟩
def q3q:Info:=⟨QT [(10,[4]),(9,[0,1,5,12,13,14]),(8,[0,1,5,12,13,14]),(7,[0,1,5,7,12,13,14,43]),(6,[0,1,5,7,8,12,13,14]),(5,[0,1,5,7,12,13,14,20]),(4,[0,1,5,7,12,13,14]),(3,[0,1,5,12,13,14,15]),(2,[0,1,5,12,13,14]),(1,[0,1,5]),(0,[0,1])],QZ [(6,(sF 0 (sF 1 (sF 2 (sF 3 (sF 4 (sF 5 (sF 6 (sF 7 (sF 8 (sF 9 (sF 10 (sF 11 (sF 12 (sT 13 (sT 14 .nil)))))))))))))))),(10,(sF 0 (sF 1 (sF 5 (sF 6 (sF 7 (sF 8 (sF 9 (.fork 2 (sT 3 (sT 4 (sT 10 (sT 11 .nil)))) 3 (sT 2 (sT 4 (sT 10 (sT 11 .nil)))))))))))))],QW [(4,[[7]]),(6,[[8]])]⟩
def KL:Info:=⟨QT [(7,[2]),(6,[2,3,24,25,26]),(5,[2,3,24,25,26]),(4,[2,3,5,24,25,26]),(3,[2,3,24,25,26,27]),(2,[2,3,24,25,26]),(1,[1,2,3]),(0,[1,2])],QZ [(1,(sF 0 (sF 1 (sF 2 (sF 3 (sF 4 (sF 5 (sF 7 (sF 8 (sF 9 (sF 10 (sF 11 (sF 12 (sF 14 (sF 15 (.fork 6 (.fork 13 (sF 16 (sT 17 (sT 18 .nil))) 17 (sT 13 (sT 16 (sT 18 .nil)))) 17 (sT 6 (sT 13 (sT 16 (sT 18 .nil)))))))))))))))))))),(5,(sT 6 (sT 7 (sF 0 (sF 2 (sF 3 (sF 4 (sF 5 (.fork 1 (sT 8 (sT 9 (sT 10 (sT 11 (sT 12 (sT 13 .nil)))))) 8 (sT 9 (.fork 1 (sT 10 (sT 11 (sT 12 (sT 13 .nil)))) 10 (sT 1 (sT 11 (sT 12 (sT 13 .nil)))))))))))))))],QW [(0,[[1]]),(4,[[5]])]⟩
def KN:Info:=⟨QT [(9,[4]),(8,[0,1,12,13]),(7,[4]),(6,[0,1,12,13,24]),(5,[0,1,5,12,13]),(4,[0,1,12,13,14]),(3,[0,1,12,13]),(2,[4]),(1,[0,1,10]),(0,[0,1])],QZ [(6,(sT 0 (sT 1 (sT 2 (sT 3 (sT 4 (sT 5 (sT 6 (sT 7 (sT 8 .nil))))))))))],QW []⟩
def GJ:Info:=⟨QT [(7,[4]),(6,[0,5,8,9,10]),(5,[0,5,8,9,10]),(4,[0,5,7,8,9,10]),(3,[0,5,8,9,10,11]),(2,[0,5,8,9,10]),(1,[0,1,5]),(0,[0,1])],QZ [(5,(sT 1 (sT 2 (sT 3 (sF 0 (sF 5 (sF 6 (sF 7 (sT 4 (sT 8 (sT 9 (sT 10 (sT 11 (sT 12 .nil))))))))))))))],QW [(4,[[7]])]⟩
def q7h:Info:=⟨QT [(8,[2]),(7,[3,6,7,8]),(6,[2]),(5,[3,5,6,7,8,14]),(4,[3,5,6,7,8]),(3,[3,6,7,8,9]),(2,[3,6,7,8]),(1,[0,3]),(0,[0])],QZ [],QW []⟩
def BU:Info:=⟨QT [(13,[4]),(12,[4]),(11,[19]),(10,[4]),(9,[0,1,16]),(8,[4]),(7,[0,1,13]),(6,[4]),(5,[4]),(4,[12]),(3,[0,1,6,11]),(2,[0,1,5,6]),(1,[0,1,5]),(0,[0,1])],QZ [],QW []⟩
def x3u:Info:=⟨QT [(3,[2]),(2,[2]),(1,[0,4]),(0,[0])],QZ [],QW []⟩
def q9f:Info:=⟨QT [(7,[2]),(6,[5,6,7]),(5,[2]),(4,[5,6,7,13]),(3,[4,5,6,7]),(2,[5,6,7,8]),(1,[5,6,7]),(0,[0])],QZ [],QW []⟩
def x8x:Info:=⟨QT [(3,[2]),(2,[2]),(1,[0,16]),(0,[0])],QZ [],QW []⟩
def YG:Info:=⟨QT [(12,[6]),(11,[0,2,16,17,18]),(10,[6]),(9,[0,2,16,17,18,69]),(8,[6]),(7,[0,2,8,16,17,18,53]),(6,[0,2,8,16,17,18]),(5,[0,2,8,16,17,18]),(4,[0,2,16,17,18,19]),(3,[0,2,16,17,18]),(2,[6]),(1,[0,1,2,15]),(0,[0,1,2])],QZ [(7,(sT 0 (sT 1 (sT 2 (sT 3 (sT 4 (sT 5 (sT 6 (sT 7 (sT 8 (sT 9 (sT 10 (sT 11 (sT 12 (sT 13 (sT 14 (sT 15 (sT 16 (sT 17 (sT 18 (sT 19 (sT 20 (sT 21 (sT 22 (sT 23 (sT 24 .nil))))))))))))))))))))))))))],QW [(5,[[8]])]⟩
def ML:Info:=⟨QT [(15,[0,1,5,11,12,13]),(14,[0,1,5,11,12,13]),(13,[0,1,5,7,10,11,12,13]),(12,[0,1,5,7,10,11,12,13]),(11,[0,1,5,7,8,10,11,12,13,57]),(10,[0,1,5,7,8,10,11,12,13]),(9,[0,1,5,7,8,9,11,12,13]),(8,[0,1,5,7,8,9,11,12,13]),(7,[0,1,5,7,8,9,11,12,13,31]),(6,[0,1,5,6,7,8,9,11,12,13]),(5,[0,1,5,6,7,8,9,11,12,13]),(4,[0,1,5,6,7,8,11,12,13]),(3,[0,1,5,6,7,11,12,13]),(2,[0,1,5,11,12,13,14]),(1,[0,1,5,11,12,13]),(0,[0,1,5])],QZ [(9,(sT 5 (sF 0 (sF 1 (sF 2 (sF 3 (.fork 4 (sT 6 (sT 7 (sT 8 (sT 9 (sT 10 .nil))))) 6 (sT 4 (sT 7 (sT 8 (sT 9 (sT 10 .nil))))))))))))],QW [(0,[[5]]),(3,[[7]])]⟩
def x0m:Info:=⟨QT [(9,[4]),(8,[1,2,11,12,13]),(7,[4]),(6,[1,2,6,11,12,13,20]),(5,[1,2,6,11,12,13]),(4,[1,2,11,12,13,14]),(3,[1,2,11,12,13]),(2,[4]),(1,[1,2,9]),(0,[1,2])],QZ [(7,(sT 0 (sT 1 (sF 3 (sT 2 (sT 4 (sT 5 (sT 6 .nil))))))))],QW [(0,[[2]]),(5,[[6]])]⟩
def FE:Info:=⟨QT [(2,[4]),(1,[1,5]),(0,[0,1])],QZ [(2,(sT 4 (sT 5 (sT 6 (sT 7 (sT 8 (sF 0 (sF 1 (sF 2 (sF 3 (sT 9 (sT 10 (sT 11 (sT 12 .nil))))))))))))))],QW []⟩
def FC:Info:=⟨QT [(11,[4,5]),(10,[9,10]),(9,[0,9,10,57]),(8,[0,9,10]),(7,[0,3,6,24,25,26]),(6,[0,3,6,24,25,26]),(5,[0,3,6,8,24,25,26]),(4,[0,3,6,24,25,26,27]),(3,[0,3,6,24,25,26]),(2,[0,3,6]),(1,[0,3,6]),(0,[0,3])],QZ [(6,(sT 5 (sT 6 (sT 7 (sF 0 (sF 1 (sF 2 (sF 3 (.fork 4 (sT 8 (sT 9 (sT 10 (sT 11 (sT 12 .nil))))) 8 (sT 4 (sT 9 (sT 10 (sT 11 (sT 12 .nil)))))))))))))),(8,(sT 0 (sT 1 (sT 2 (sT 3 (sT 4 (sT 5 (sT 6 (sT 7 (sT 8 (sT 9 (sT 10 (sT 11 (sT 12 (sT 13 (sT 14 .nil))))))))))))))))],QW [(0,[[3]])]⟩
def FS:Info:=⟨QT [(1,[]),(0,[0,1,2,11])],QZ [],QW []⟩
def q2g:Info:=⟨QT [(9,[6,7]),(8,[6,7]),(7,[37]),(6,[0,1,2,12,13,14]),(5,[6,7]),(4,[0,1,2,9,12,13,14,22]),(3,[0,1,2,9,12,13,14]),(2,[0,1,2,12,13,14,15]),(1,[0,1,2,12,13,14]),(0,[0,1,2])],QZ [],QW [(3,[[9]])]⟩
def x1b:Info:=⟨QT [(3,[4]),(2,[4]),(1,[0,1,7]),(0,[0,1])],QZ [],QW []⟩
def NK:Info:=⟨QT [(1,[2]),(0,[0])],QZ [(1,(sT 0 (sT 1 (sT 2 (sT 3 (sT 4 (sT 5 (sT 6 (sT 7 (sT 8 (sT 9 (sT 10 (sT 11 (sT 12 .nil))))))))))))))],QW []⟩
def VO:Info:=⟨QT [(7,[4]),(6,[0,1,7,8]),(5,[4]),(4,[0,1,5,7,8,16]),(3,[0,1,5,7,8]),(2,[0,1,7,8,9]),(1,[0,1,7,8]),(0,[0,1])],QZ [],QW []⟩
def q7z:Info:=⟨QT [(7,[2]),(6,[0,5,6,7]),(5,[2]),(4,[0,5,6,7,16]),(3,[0,3,4,5,6,7]),(2,[0,5,6,7,8]),(1,[0,5,6,7]),(0,[0])],QZ [],QW []⟩
def x1s:Info:=⟨QT [(7,[2]),(6,[1,3,7,8,9]),(5,[1,3,7,8,9]),(4,[1,3,5,7,8,9]),(3,[1,3,7,8,9,10]),(2,[1,3,7,8,9]),(1,[1,3]),(0,[1])],QZ [],QW [(0,[[1]]),(4,[[5]])]⟩
def ZA:Info:=⟨QT [(1,[4]),(0,[0,1])],QZ [],QW []⟩
def q0r:Info:=⟨QT [(1,[3]),(0,[0,1])],QZ [],QW []⟩
def q1t:Info:=⟨QT [(1,[4]),(0,[0,1])],QZ [(1,(sT 0 (sT 1 (sT 2 (sT 3 (sT 4 (sT 5 (sT 6 (sT 7 (sT 8 (sT 9 (sT 10 (sT 11 (sT 12 (sT 13 (sT 14 (sT 15 (sT 16 (sT 17 (sT 18 (sT 19 (sT 20 (sT 21 .nil)))))))))))))))))))))))],QW []⟩
def q5s:Info:=⟨QT [(7,[8]),(6,[2,4,5,7,12,13,14]),(5,[8]),(4,[2,4,5,7,12,13,14,22]),(3,[2,4,5,7,10,12,13,14]),(2,[2,4,5,7,12,13,14,15]),(1,[2,4,5,7,12,13,14]),(0,[2,4,5,7])],QZ [],QW [(0,[[4],[5],[7]])]⟩
def q9s:Info:=⟨QT [(9,[4]),(8,[3,11,12,13]),(7,[4]),(6,[3,6,11,12,13,21]),(5,[3,6,11,12,13]),(4,[3,11,12,13,14]),(3,[3,11,12,13]),(2,[4]),(1,[2,3,9]),(0,[2,3])],QZ [],QW [(0,[[2],[3]]),(5,[[6]])]⟩
def MD:Info:=⟨QT [(3,[2]),(2,[2]),(1,[1,6]),(0,[1])],QZ [],QW [(0,[[1]])]⟩
def x2f:Info:=⟨QT [(8,[4,5]),(7,[0,8,9,10]),(6,[0,8,9,10]),(5,[4,5]),(4,[0,7,8,9,10,16]),(3,[0,7,8,9,10]),(2,[0,8,9,10,11]),(1,[0,8,9,10]),(0,[0,1])],QZ [],QW []⟩
def q8j:Info:=⟨QT [(8,[4]),(4,[4]),(7,[4]),(6,[6]),(5,[0,3,16]),(3,[0,3,9,10]),(2,[0,3,9,10]),(1,[0,3,9]),(0,[0,3])],QZ [],QW [(0,[[3]])]⟩
def q1b:Info:=⟨QT [(20,[4]),(19,[6]),(18,[2,5,6,21,22,23]),(17,[2,5,6,21,22,23,31,32,33]),(16,[2,5,6,21,22,23,31,32,33,39,40,41]),(15,[2,5,6,21,22,23,31,32,33,39,40,41]),(14,[2,5,6,12,21,22,23,31,32,33,39,40,41,48]),(13,[2,5,6,12,21,22,23,31,32,33,39,40,41]),(12,[2,5,6,21,22,23,31,32,33,39,40,41,42]),(11,[2,5,6,21,22,23,31,32,33,39,40,41]),(10,[2,5,6,10,21,22,23,31,32,33]),(9,[2,5,6,21,22,23,31,32,33,34]),(8,[2,5,6,21,22,23,31,32,33]),(7,[2,5,6,8,21,22,23]),(6,[2,5,6,21,22,23,24]),(5,[2,5,6,21,22,23]),(4,[1,2,5,6]),(3,[1,2,5]),(2,[4]),(1,[1,2,16]),(0,[1,2])],QZ [],QW [(0,[[2]]),(10,[[10]])]⟩
def q2s:Info:=⟨QT [(10,[4]),(9,[1,2,5,9,10,11]),(8,[1,2,5,9,10,11]),(7,[4]),(6,[1,2,5,7,9,10,11,34]),(5,[1,2,5,7,9,10,11,17]),(4,[1,2,5,7,9,10,11]),(3,[1,2,5,9,10,11,12]),(2,[1,2,5,9,10,11]),(1,[1,2,5]),(0,[1,2])],QZ [],QW [(0,[[2]]),(4,[[7]])]⟩
def BF:Info:=⟨QT [(11,[4]),(10,[0,5,17,18,19]),(9,[0,5,7,17,18,19,25,26,27]),(8,[0,5,7,17,18,19,25,26,27]),(7,[0,5,7,9,17,18,19,25,26,27]),(6,[0,5,7,17,18,19,25,26,27,28]),(5,[0,5,7,17,18,19,25,26,27]),(4,[0,5,7,17,18,19]),(3,[0,5,17,18,19,20]),(2,[0,5,17,18,19]),(1,[0,1,5]),(0,[0,1])],QZ [],QW [(4,[[7]])]⟩
def KI:Info:=⟨QT [(1,[4]),(0,[0,1])],QZ [(1,(sT 4 (sT 5 (sF 0 (sF 1 (sF 2 (sF 3 (sT 6 (sT 7 (sT 8 .nil))))))))))],QW []⟩
def FG:Info:=⟨QT [(13,[4]),(12,[5]),(11,[0,5,6,17,18,19]),(10,[0,5,6,17,18,19]),(9,[0,5,6,8,17,18,19]),(8,[0,5,6,8,17,18,19,32]),(7,[0,5,6,8,17,18,19]),(6,[0,5,6,17,18,19,20]),(5,[0,5,6,17,18,19]),(4,[0,1,5,6]),(3,[0,1,5]),(2,[4]),(1,[0,1,10]),(0,[0,1])],QZ [],QW []⟩
def q8h:Info:=⟨QT [(3,[2]),(2,[2]),(1,[1,5]),(0,[1])],QZ [],QW [(0,[[1]])]⟩
def VE:Info:=⟨QT [(3,[2]),(2,[2]),(1,[0,4]),(0,[0])],QZ [],QW []⟩
def YW:Info:=⟨QT [(1,[4]),(0,[0,1])],QZ [],QW []⟩
def JL:Info:=⟨QT [(7,[2]),(6,[1,2,3,14,15]),(5,[1,2,3,14,15]),(4,[1,2,3,4,14,15]),(3,[1,2,3,14,15,16]),(2,[1,2,3,14,15]),(1,[1,2,3]),(0,[1,2])],QZ [(5,(sT 2 (sT 3 (sT 4 (sT 5 (sT 6 (sF 0 (.fork 1 (sT 7 (sT 8 (sT 9 (sT 10 (sT 11 .nil))))) 7 (.fork 1 (sT 8 (sT 9 (sT 10 (sT 11 .nil)))) 8 (sT 1 (sT 9 (sT 10 (sT 11 .nil)))))))))))))],QW [(0,[[1]])]⟩
def x3w:Info:=⟨QT [(2,[2]),(1,[0]),(0,[0])],QZ [],QW []⟩
def LX:Info:=⟨QT [(1,[2]),(0,[0])],QZ [],QW []⟩
def q9x:Info:=⟨QT [(1,[2]),(0,[0])],QZ [],QW []⟩
def x9j:Info:=⟨QT [(3,[4]),(2,[0,1]),(1,[0,1,20]),(0,[0,1])],QZ [],QW []⟩
def x7s:Info:=⟨QT [(16,[2]),(15,[2]),(14,[4]),(13,[3,4]),(12,[3,4]),(11,[3,4]),(10,[3,4]),(9,[3,4]),(8,[3,4]),(7,[3,4]),(6,[3,4]),(5,[3,4]),(4,[3,4]),(3,[3,4]),(2,[3,4]),(1,[3]),(0,[0])],QZ [],QW []⟩
def q5i:Info:=⟨QT [(26,[2]),(25,[2]),(24,[1,89]),(23,[2]),(22,[1,3,4,5,70]),(6,[1,3,4,5,6,7,8,9]),(9,[1,3,4,5,6,7,8,9]),(11,[1,3,4,5,6,7,8,9]),(13,[1,3,4,5,6,7,8,9]),(15,[1,3,4,5,6,7,8,9]),(17,[1,3,4,5,6,7,8,9]),(19,[1,3,4,5,6,7,8,9]),(4,[2]),(21,[1,3,4,5,6,7,8,9,37]),(20,[1,3,4,5,6,7,8,9,16,37]),(18,[1,3,4,5,6,7,8,9,16,33]),(16,[1,3,4,5,6,7,8,9,16,31]),(14,[1,3,4,5,6,7,8,9,16,29]),(12,[1,3,4,5,6,7,8,9,16,24]),(10,[1,3,4,5,6,7,8,9,16,22]),(8,[1,3,4,5,6,7,8,9,16,19]),(7,[1,3,4,5,6,7,8,9,16,19]),(5,[1,3,4,5,6,7,8,9,16,17]),(3,[1,3,4,5,6,7,8,9,16]),(2,[1,3,4,5,6,7,8,9]),(1,[1,3,4,5,6,7,8]),(0,[1])],QZ [(1,(sT 0 (sT 1 (sT 2 (sT 3 (sT 4 (sT 5 (sT 6 (sT 7 .nil)))))))))],QW [(0,[[1]])]⟩
def x2z:Info:=⟨QT [(12,[2]),(11,[3,21,22,23]),(10,[3,21,22,23]),(9,[3,7,21,22,23]),(8,[3,21,22,23,24]),(7,[3,21,22,23]),(6,[1,3,9,10,11]),(5,[1,3,9,10,11]),(4,[1,3,5,9,10,11]),(3,[1,3,9,10,11,12]),(2,[1,3,9,10,11]),(1,[1,3]),(0,[1])],QZ [],QW [(0,[[1]]),(4,[[5]]),(9,[[7]])]⟩
def z0r:Info:=⟨QT [(3,[6,7]),(2,[6,7]),(1,[1,2,3,10]),(0,[1,2,3])],QZ [],QW [(0,[[3]])]⟩
def WM:Info:=⟨QT [(7,[4]),(6,[0,1,7,8]),(5,[4]),(4,[0,1,5,7,8,16]),(3,[0,1,5,7,8]),(2,[0,1,7,8,9]),(1,[0,1,7,8]),(0,[0,1])],QZ [],QW []⟩
def x0l:Info:=⟨QT [(12,[2]),(11,[3,25,26,27]),(10,[3,25,26,27]),(9,[3,5,25,26,27]),(8,[3,5,25,26,27,32]),(7,[3,5,25,26,27]),(6,[3,25,26,27,28]),(5,[3,25,26,27]),(4,[1,3]),(3,[1,3]),(2,[1,3,13]),(1,[1,3]),(0,[1])],QZ [],QW [(0,[[1]]),(7,[[5]])]⟩
def q9v:Info:=⟨QT [(9,[4]),(8,[1,12,13,14]),(7,[4]),(6,[1,12,13,14,26]),(5,[1,5,6,12,13,14]),(4,[1,12,13,14,15]),(3,[1,12,13,14]),(2,[4]),(1,[0,1,11]),(0,[0,1])],QZ [(6,(sT 0 (sT 1 (sT 2 (sT 3 (sT 4 (sT 5 (sT 6 (sT 7 .nil)))))))))],QW [(5,[[6]])]⟩
def q5k:Info:=⟨QT [(1,[4]),(0,[2,3])],QZ [],QW [(0,[[2],[3]])]⟩
def x2q:Info:=⟨QT [(12,[4]),(11,[5]),(4,[0,5,6]),(10,[0,5,6,22,23,24]),(9,[0,5,6,22,23,24]),(8,[0,5,6,8,22,23,24,31]),(7,[0,5,6,8,22,23,24]),(6,[0,5,6,22,23,24,25]),(5,[0,5,6,22,23,24]),(3,[0,5,6,14]),(2,[0,5,6]),(1,[0,5]),(0,[0,1])],QZ [],QW []⟩
def PH:Info:=⟨QT [(15,[4]),(3,[4]),(5,[4]),(7,[4]),(9,[4]),(11,[4]),(14,[4]),(13,[5]),(12,[0,3,58]),(10,[0,3,9,55]),(8,[0,3,9,50]),(6,[0,3,9,37]),(4,[0,3,9,25]),(2,[0,3,9,10]),(1,[0,3,9]),(0,[0,3])],QZ [(3,(sT 0 (sT 1 (sT 2 (sT 3 (sT 4 (sF 6 (sF 7 (sF 8 (sF 9 (sF 10 (sT 5 (sT 11 (sT 12 (sT 13 .nil))))))))))))))),(5,(sT 0 (sT 1 (sT 2 (sT 3 (sT 4 (sT 5 (sF 7 (sF 8 (sT 6 (sT 9 (sT 10 .nil)))))))))))),(7,(sT 0 (sT 1 (sT 2 (sT 3 (sT 4 (sT 5 (sT 6 (sT 7 (sT 8 (sT 9 (sT 10 (sT 11 .nil)))))))))))))],QW [(0,[[3]])]⟩
def x1d:Info:=⟨QT [(9,[4]),(8,[5,20,21,22]),(7,[5,20,21,22]),(6,[5,7,20,21,22]),(5,[5,20,21,22,23]),(4,[5,20,21,22]),(3,[1,5]),(2,[4]),(1,[0,1,13]),(0,[0,1])],QZ [(3,(sF 0 (sF 2 (.fork 1 (sT 3 (sT 4 (sT 5 (sT 6 .nil)))) 3 (sT 1 (sT 4 (sT 5 (sT 6 .nil))))))))],QW [(3,[[19]]),(6,[[7]])]⟩
def YE:Info:=⟨QT [(1,[4]),(0,[0,1])],QZ [],QW []⟩
def q8k:Info:=⟨QT [(11,[6]),(3,[0,1,2,7]),(10,[0,1,2,7,22,23,24]),(9,[0,1,2,7,22,23,24]),(8,[0,1,2,7,9,22,23,24]),(7,[0,1,2,7,9,22,23,24,32]),(6,[0,1,2,7,9,22,23,24]),(5,[0,1,2,7,22,23,24,25]),(4,[0,1,2,7,22,23,24]),(2,[0,1,2,7,13]),(1,[0,1,2,7]),(0,[0,1,2])],QZ [],QW []⟩
def q2a:Info:=⟨QT [(8,[2]),(7,[3,6,7,8]),(6,[3,6,7,8]),(5,[3,4,6,7,8,13]),(4,[3,4,5,6,7,8]),(3,[3,6,7,8,9]),(2,[3,6,7,8]),(1,[0,3]),(0,[0])],QZ [],QW []⟩
def q3w:Info:=⟨QT [(1,[2]),(0,[1])],QZ [],QW [(0,[[1]])]⟩
def q5y:Info:=⟨QT [(8,[4]),(7,[1,23,24,25]),(6,[1,23,24,25]),(5,[1,6,23,24,25]),(4,[1,23,24,25,26]),(3,[1,23,24,25]),(2,[1,2]),(1,[1,2,16]),(0,[1,2])],QZ [],QW [(0,[[2]]),(5,[[6]])]⟩
def JO:Info:=⟨QT [(7,[4]),(6,[0,1,7,8]),(5,[4]),(4,[0,1,5,7,8,16]),(3,[0,1,5,7,8]),(2,[0,1,7,8,9]),(1,[0,1,7,8]),(0,[0,1])],QZ [],QW []⟩
def q6c:Info:=⟨QT [(1,[4]),(0,[2,3])],QZ [(1,(sT 0 (sT 1 (sF 3 (sF 4 (sF 7 (sF 8 (sF 10 (sF 11 (sF 14 (sF 15 (sF 16 (sF 17 (sT 2 (sT 5 (sT 6 (sT 9 (sT 12 (sT 13 (sT 18 (sT 19 (sT 20 (sT 21 .nil)))))))))))))))))))))))],QW [(0,[[2],[3]])]⟩
def ZG:Info:=⟨QT [(16,[4]),(5,[0,1,5]),(15,[4]),(14,[0,5]),(10,[0,1,5,6,7]),(13,[0,1,5,6,7]),(12,[0,1,5,6,7]),(11,[0,1,5,6,7,49]),(9,[0,1,5,6,7,35]),(8,[0,1,5,6,7]),(7,[0,1,5,6]),(6,[0,1,5,28]),(4,[0,1,5,15]),(3,[0,1,5]),(2,[4]),(1,[0,1,10]),(0,[0,1])],QZ [(6,(sT 0 (sT 1 (sT 2 (sT 3 (sT 4 (sT 5 (sT 6 (sT 7 (sT 8 (sT 9 (sT 10 .nil)))))))))))),(11,(sT 0 (sT 1 (sT 2 (sT 3 (sT 4 (sT 5 (sT 6 (sT 7 (sT 8 (sT 9 (sT 10 (sT 11 .nil)))))))))))))],QW []⟩
def q5t:Info:=⟨QT [(1,[4]),(0,[2,3])],QZ [],QW [(0,[[2],[3]])]⟩
def x2c:Info:=⟨QT [(1,[2]),(0,[0])],QZ [],QW []⟩
def x0h:Info:=⟨QT [(1,[4]),(0,[0,1])],QZ [],QW []⟩
def x0t:Info:=⟨QT [(1,[4]),(0,[1,2])],QZ [],QW [(0,[[2]])]⟩
def q6k:Info:=⟨QT [(7,[2]),(6,[5,6,7]),(5,[2]),(4,[5,6,7,25]),(3,[4,5,6,7]),(2,[5,6,7,8]),(1,[5,6,7]),(0,[0])],QZ [],QW [(3,[[4]])]⟩
def x9i:Info:=⟨QT [(21,[6,7]),(20,[6,7]),(19,[3,9,11,84]),(18,[3,9,10,11]),(17,[6,7]),(16,[1,2,3,9,72]),(15,[6,7]),(14,[1,2,3,9,65]),(13,[6,7]),(12,[1,2,3,9,51]),(11,[6,7]),(10,[1,2,3,9,47]),(9,[1,2,3,9,10]),(3,[6,7]),(8,[6,7]),(7,[6,7]),(6,[2,8,31]),(5,[2,8]),(4,[1,2,3,18]),(2,[1,2,3,13,14]),(1,[1,2,3,13]),(0,[1,2,3])],QZ [],QW [(0,[[3]])]⟩
def ZY:Info:=⟨QT [(1,[4]),(0,[0,1])],QZ [],QW []⟩
def q1i:Info:=⟨QT [(1,[3]),(0,[1,2])],QZ [],QW [(0,[[2]])]⟩
def q5r:Info:=⟨QT [(9,[4]),(8,[5]),(7,[5,12,13,14]),(6,[5,12,13,14]),(5,[5,7,12,13,14,21]),(4,[5,7,12,13,14]),(3,[5,12,13,14,15]),(2,[5,12,13,14]),(1,[0,1,5]),(0,[0,1])],QZ [],QW [(4,[[7]])]⟩
def x1k:Info:=⟨QT [(3,[4]),(2,[4]),(1,[0,1,7]),(0,[0,1])],QZ [],QW []⟩
def PW:Info:=⟨QT [(9,[6]),(8,[]),(7,[0,1,2,7]),(6,[0,1,2]),(5,[6]),(4,[0,1,2,7,31]),(3,[0,1,2,7,8]),(2,[6]),(1,[0,1,2,18]),(0,[0,1,2])],QZ [(6,(sT 13 (sF 0 (sF 1 (sF 2 (sF 3 (sF 4 (sF 5 (sF 6 (sF 7 (sF 8 (sF 9 (sF 10 (sF 11 (sF 12 (sT 14 (sT 15 (sT 16 (sT 17 .nil))))))))))))))))))),(8,(sT 13 (sF 0 (sF 1 (sF 2 (sF 3 (sF 4 (sF 5 (sF 6 (sF 7 (sF 8 (sF 9 (sF 10 (sF 11 (sF 12 (sT 14 (sT 15 (sT 16 (sT 17 .nil)))))))))))))))))))],QW []⟩
def q0c:Info:=⟨QT [(16,[4]),(15,[1,49,50,51]),(14,[4]),(13,[1,49,50,51,59]),(12,[1,6,49,50,51]),(11,[1,49,50,51,52]),(10,[1,49,50,51]),(9,[4]),(8,[1,2,47]),(5,[4]),(7,[4]),(6,[1,2,30]),(4,[1,2,19,20]),(3,[1,2,19]),(2,[4]),(1,[1,2,17]),(0,[1,2])],QZ [(1,(sT 0 (sT 1 (sT 2 (sT 6 (sT 7 (sF 3 (sF 4 (sF 5 (sT 8 (sT 9 (sT 10 .nil))))))))))))],QW [(0,[[2]]),(12,[[6]])]⟩
def x1i:Info:=⟨QT [(1,[2]),(0,[1])],QZ [],QW [(0,[[1]])]⟩
def x7e:Info:=⟨QT [(6,[4,5]),(3,[4,5]),(5,[4,5]),(4,[1,11]),(2,[1,6,7]),(1,[1,6]),(0,[0,1])],QZ [],QW []⟩
def x0f:Info:=⟨QT [(1,[2]),(0,[0])],QZ [],QW []⟩
def x7o:Info:=⟨QT [(15,[6,7]),(3,[6,7]),(5,[6,7]),(7,[6,7]),(10,[6,7]),(12,[6,7]),(14,[6,7]),(13,[0,1,2,42]),(11,[0,1,2,8,33]),(9,[0,1,2,8,24]),(8,[0,1,2,8,24]),(6,[0,1,2,8,19]),(4,[0,1,2,8,14]),(2,[0,1,2,8,9]),(1,[0,1,2,8]),(0,[0,1,2])],QZ [],QW []⟩
def x2r:Info:=⟨QT [(7,[2]),(2,[2]),(4,[2]),(6,[2]),(5,[17]),(3,[0,10]),(1,[0,3]),(0,[0])],QZ [],QW []⟩
def x6b:Info:=⟨QT [(3,[2]),(2,[2]),(1,[3]),(0,[0])],QZ [],QW []⟩
def q6b:Info:=⟨QT [(11,[6,7]),(10,[6,7]),(9,[1,2,20]),(8,[6,7]),(7,[6,7]),(6,[1,15]),(5,[6,7]),(4,[1,13]),(3,[0,1,2,11]),(2,[6,7]),(1,[0,1,2,9]),(0,[0,1,2])],QZ [],QW []⟩
def q3z:Info:=⟨QT [(14,[6,7]),(3,[6,7]),(5,[6,7]),(7,[6,7]),(9,[6,7]),(11,[6,7]),(13,[6,7]),(12,[1,2,39]),(10,[1,2,8,33]),(8,[1,2,8,27]),(6,[1,2,8,21]),(4,[1,2,8,15]),(2,[1,2,8,9]),(1,[1,2,8]),(0,[0,1,2])],QZ [],QW []⟩
abbrev Str:=List UInt8
inductive X where
 | mk (op n:Int) (name:Str) (kids:List X)
namespace X
def op:X->Int | .mk a _ _ _=>a
def n:X->Int | .mk _ a _ _=>a
def name:X->Str | .mk _ _ a _=>a
def kids:X->List X | .mk _ _ _ a=>a
end X
structure Arg where
 ref:Bool
 name:Str
 x:X
inductive S where
 | mk (id kind:Int) (labels:List Str) (name proc:Str) (x:X) (has:Bool) (args:List Arg) (thn els:List S)
namespace S
def id:S->Int | .mk a _ _ _ _ _ _ _ _ _=>a
def kind:S->Int | .mk _ a _ _ _ _ _ _ _ _=>a
def labels:S->List Str | .mk _ _ a _ _ _ _ _ _ _=>a
def name:S->Str | .mk _ _ _ a _ _ _ _ _ _=>a
def proc:S->Str | .mk _ _ _ _ a _ _ _ _ _=>a
def x:S->X | .mk _ _ _ _ _ a _ _ _ _=>a
def has:S->Bool | .mk _ _ _ _ _ _ a _ _ _=>a
def args:S->List Arg | .mk _ _ _ _ _ _ _ a _ _=>a
def thn:S->List S | .mk _ _ _ _ _ _ _ _ a _=>a
def els:S->List S | .mk _ _ _ _ _ _ _ _ _ a=>a
end S
structure Param where
 name:Str
 ref:Bool
structure Pr where
 name:Str
 params:List Param
 vars:List Str
 body:List S
 fin:List Str
structure Pg where
 globals:List Str
 procs:List Pr
structure Step where
 src:Int
 dst:Int
 kind:Int
 deriving DecidableEq
def QP (l:List Str):AV := .sl (l.map .str)
def XW (l:List Int):AV := .sl (l.map (.int .i64))
mutual
def X.av:X->AV
 | .mk op n name kids => .agg [.int .i64 op,.int .i64 n,.str name,.sl (X.avs kids)]
def X.avs:List X->List AV
 | []=>[]
 | x::r=>X.av x::X.avs r
end
def X.cells (x:X):List AV:=[.int .i64 x.op,.int .i64 x.n,.str x.name,.sl (X.avs x.kids)]
theorem X.av_eq (x:X):x.av = .agg x.cells:=by cases x;simp only [X.av,X.cells,X.op,X.n,X.name,X.kids]
theorem X.avs_eq : ∀ l:List X,X.avs l=l.map fun x => .agg x.cells
 | []=>by simp only [X.avs,map_nil]
 | x::r=>by simp only [X.avs,X.av_eq,X.avs_eq r,map_cons]
def Arg.cells (a:Arg):List AV := .bool a.ref :: .str a.name::a.x.cells
mutual
def S.av:S->AV
 | .mk id kind labels name proc x has args thn els => .agg (.int .i64 id :: .int .i64 kind::QP labels :: .str name :: .str proc::(x.cells++[.bool has,.sl (args.map fun a => .agg a.cells),.sl (S.avs thn),.sl (S.avs els)]))
def S.avs:List S->List AV
 | []=>[]
 | x::r=>S.av x::S.avs r
end
def S.cells (s:S):List AV :=
 [.int .i64 s.id,.int .i64 s.kind,QP s.labels,.str s.name,.str s.proc,.int .i64 s.x.op,.int .i64 s.x.n,.str s.x.name,.sl (X.avs s.x.kids),.bool s.has,.sl (s.args.map fun a => .agg a.cells),.sl (S.avs s.thn),.sl (S.avs s.els)]
theorem S.av_eq (s:S):s.av = .agg s.cells:=by cases s;simp only [S.av,S.cells,X.cells,S.id,S.kind,S.labels,S.name,S.proc,S.x,S.has,S.args,S.thn,S.els,List.cons_append,List.nil_append]
theorem S.avs_eq : ∀ l:List S,S.avs l=l.map fun x => .agg x.cells
 | []=>by simp only [S.avs,map_nil]
 | x::r=>by simp only [S.avs,S.av_eq,S.avs_eq r,map_cons]
def eSs (l:List S):AV := .sl (S.avs l)
def z1r (l:List Arg):AV := .sl (l.map fun a => .agg a.cells)
def Param.cells (a:Param):List AV:=[.str a.name,.bool a.ref]
def Pr.cells (f:Pr):List AV:=[.str f.name,.sl (f.params.map fun a => .agg a.cells),QP f.vars,eSs f.body,QP f.fin]
def Pg.cells (p:Pg):List AV:=[QP p.globals,.sl (p.procs.map fun f => .agg f.cells)]
def Step.cells (s:Step):List AV:=[.int .i64 s.src,.int .i64 s.dst,.int .i64 s.kind]
def UQ (l:List Step):AV := .sl (l.map fun s => .agg s.cells)
open Go.Proofs Go.ChangeShapes
def VZ (w:World):Mem:=fun b=>match w.heap[b]? with
 | some (.cells c _ _)=>some c
 | _=>none
theorem x6r (w:World):(VZ w).lies w:=by
 intro b c h;unfold VZ at h;split at h
 ·rename_i c' e fr hh;cases h;exact ⟨e,fr,hh⟩
 ·cases h
theorem x7j {w:World} {a:Addr} {v:Value} (h:w.cell? a=some v):a.spot=none ∧ ∃ cells,VZ w a.block=some cells∧cells[a.off]? = some v:=by
 refine ⟨World.cell?_spot h,?_⟩;unfold World.cell? at h;split at h
 ·rename_i c e fr hh;split at h
  ·cases h
  ·exact ⟨c,by unfold VZ;rw [hh],h⟩
 ·cases h
def RepCs (σ:Mem) (avs:List AV) (cs:List Value):Prop:=cs.length=avs.length ∧ ∀ (j:Nat) (c:AV),avs[j]? = some c -> ∃ u,cs[j]? = some u∧Rep σ c u
theorem RepCs.nil (σ:Mem):RepCs σ [] []:=⟨rfl,by simp⟩
theorem RepCs.one {σ:Mem} {a:AV} {v:Value} (h:Rep σ a v):RepCs σ [a] [v]:=⟨rfl,fun j c hj=>by
 cases j with
 | zero=>cases hj;exact ⟨v,rfl,h⟩
 | succ j=>simp at hj⟩
theorem RepCs.append {σ:Mem} {xs ys:List AV} {cs ds:List Value} (h:RepCs σ xs cs) (h':RepCs σ ys ds):RepCs σ (xs++ys) (cs++ds):=by
 refine ⟨by simp [h.1,h'.1],fun j c hj => ?_⟩;rw [List.getElem?_append] at hj ⊢;rw [h.1];split at hj
 ·rw [if_pos (by assumption)];exact h.2 j c hj
 ·rw [if_neg (by assumption)];exact h'.2 _ c hj
theorem RepCs.of_agg {σ:Mem} {avs:List AV} {vs:Array Value} (h:RepCs σ avs vs.toList):Rep σ (.agg avs) (.agg vs):=by
 refine .agg avs vs (fun j=>vs[j]?.getD undef) (by simpa using h.1) (fun j c hj => ?_) (fun j c hj => ?_)
 ·obtain ⟨u,h1,_⟩:=h.2 j c hj;rw [Array.getElem?_toList] at h1;simp [h1]
 ·obtain ⟨u,h1,h2⟩:=h.2 j c hj;rw [Array.getElem?_toList] at h1;simpa [h1] using h2
section
variable {H:Type} {enc:TypeId×Value->H} {P:Program} {w:World} {base:Nat} {spare:Nat->Bool} {held:Bool}
theorem q1g {t:TypeId} {n:Nat} {cs:List Value} {x:DataW H×List MemPlace} (ht:P.underlying t=some .string) (h:DataW.trod enc P w base spare held n t cs=some x) : ∃ s:Str,RepCs (VZ w) [.str s] cs:=by
 obtain ⟨s,rfl,_,h1⟩:=DataW.trod_string ht h;exact ⟨s.data.toList,.one (Rep.str (σ:=VZ w) s.data.toList (by simpa using h1))⟩
theorem q8z {t:TypeId} {n:Nat} {cs:List Value} {x:DataW H×List MemPlace} (ht:P.underlying t=some (.int .i64)) (h:DataW.trod enc P w base spare held n t cs=some x) : ∃ i:Int,RepCs (VZ w) [.int .i64 i] cs:=by
 obtain ⟨i,rfl,_⟩:=DataW.trod_int ht h;exact ⟨i,.one (.int _ _)⟩
theorem z0d {t:TypeId} {n:Nat} {cs:List Value} {x:DataW H×List MemPlace} (ht:P.underlying t=some .bool) (h:DataW.trod enc P w base spare held n t cs=some x) : ∃ b:Bool,RepCs (VZ w) [.bool b] cs:=by
 obtain ⟨b,rfl,_⟩:=DataW.trod_bool ht h;exact ⟨b,.one (.bool b)⟩
theorem RepCs.step {σ:Mem} {xs ys:List AV} {cs:List Value} {o k:Nat} (h:RepCs σ xs ((cs.drop o).take k)) (h':RepCs σ ys (cs.drop (o+k))):RepCs σ (xs++ys) (cs.drop o):=by
 have:=h.append h'
 rwa [<- List.drop_drop,List.take_append_drop] at this
theorem RepCs.fin {σ:Mem} {cs:List Value} {o:Nat} (h:cs.length=o):RepCs σ [] (cs.drop o):=by
 rw [List.drop_eq_nil_of_le (by omega)];exact .nil σ
theorem BB {α:Type} [Inhabited α] (F:α->AV) (hspare : ∀ b,spare b=true) {t e:TypeId} {n:Nat} {cs:List Value} {x:DataW H×List MemPlace} (ht:P.underlying t=some (.slice e)) {sz:Nat} (hsz:P.cellsOf e=sz) (hF : ∀ a,(F a).cells.length=sz) (hpos:0<sz)
  (hd : ∀ m cs' y,m<n->DataW.trod enc P w base spare held m e cs'=some y -> ∃ a,RepCs (VZ w) (F a).cells cs') (h:DataW.trod enc P w base spare held n t cs=some x) : ∃ l:List α,RepCs (VZ w) [.sl (l.map F)] cs:=by
 rcases DataW.trod_slice ht h with ⟨rfl,_⟩|⟨a,len,cap,elems,rest,m,hn,rfl,_,hb,hl,hm,hlen,hel,hsp,_⟩
 ·exact ⟨[],.one .nilsl⟩
 subst hsz;have key : ∀ i,i<len -> ∃ A,∀ (j:Nat) (c:AV),(F A).cells[j]? = some c -> ∃ u,w.cell? (a.add (i*P.cellsOf e+j))=some u∧Rep (VZ w) c u:=by
  intro i hi;have h1:=hel i hi;rw [List.getElem?_eq_getElem (by omega)] at h1;obtain ⟨cs',h2,h3⟩:=Option.bind_eq_some_iff.1 h1;obtain ⟨A,h4,h5⟩:=hd m cs' _ (by omega) h3;obtain ⟨_,h6,h7⟩:=World.cells?_some h2;refine ⟨A,fun j c hj => ?_⟩;obtain ⟨u,h8,h9⟩:=h5 j c hj;have hj':j<P.cellsOf e:=by rw [<- hF A];exact (List.getElem?_eq_some_iff.1 hj).1
  have:=h7 j hj';rw [Deep.add_add] at this;exact ⟨u,this.trans h8,h9⟩
 have spot : ∀ k u,w.cell? (a.add k)=some u->(k=0->a.spot=none) ∧ ∃ cells,VZ w a.block=some cells∧cells[a.off+k]? = some u:=fun k u hk=>by
  have h1:=x7j hk;unfold Addr.add at h1;split at h1
  ·rename_i h0;subst h0;exact ⟨fun _=>h1.1,h1.2⟩
  ·exact ⟨fun h=>absurd h (by assumption),h1.2⟩
 obtain ⟨b,off,sp⟩:=a;by_cases hcap:cap=0
 ·subst hcap;obtain rfl:len=0:=by omega
  exact ⟨[],.one (.slz _)⟩
 have hmem:sp=none ∧ ∃ cells,VZ w b=some cells:=by
  by_cases hc0:len=0
  ·subst hc0;have h1:=(hsp (hspare _)).1;have h2:=(hsp (hspare _)).2 0 (by omega);rw [List.getElem?_eq_getElem (by omega)] at h2;obtain ⟨cs',h3,_⟩:=Option.bind_eq_some_iff.1 h2;obtain ⟨_,h4,h5⟩:=World.cells?_some h3;have h6:=h5 0 hpos;rw [Deep.add_add,List.getElem?_eq_getElem (by omega)] at h6;obtain ⟨h7,cells,h8,_⟩:=spot _ _ h6;exact ⟨h7 (by omega),cells,h8⟩
  ·obtain ⟨A,hA⟩:=key 0 (by omega);have hj:0<(F A).cells.length:=by rw [hF A];exact hpos
   obtain ⟨u,h1,_⟩:=hA 0 _ (List.getElem?_eq_getElem hj);obtain ⟨h7,cells,h8,_⟩:=spot _ _ h1;exact ⟨h7 (by omega),cells,h8⟩
 obtain ⟨rfl,cells,hcells⟩:=hmem;obtain ⟨f,hf⟩:=Deep.choose_lt key;refine ⟨(List.range len).map f,.one ?_⟩;have hll:(((List.range len).map f).map F).length=len:=by simp
 have hget : ∀ (i:Nat) (x:AV),(((List.range len).map f).map F)[i]? = some x->i<len∧x=F (f i):=fun i x hi=>by
  have hlt:i<len:=by rw [<- hll];exact (List.getElem?_eq_some_iff.1 hi).1
  simp [hlt] at hi;exact ⟨hlt,hi.symm⟩
 have hcell : ∀ (i:Nat) (x:AV) (j:Nat) (c:AV),(((List.range len).map f).map F)[i]? = some x->x.cells[j]? = some c -> ∃ u,cells[off+i*P.cellsOf e+j]? = some u∧Rep (VZ w) c u:=fun i x j c hi hj=>by
  obtain ⟨hlt,rfl⟩:=hget i x hi;obtain ⟨u,h1,h2⟩:=hf i hlt j c hj;obtain ⟨_,cells',h3,h4⟩:=spot _ _ h1;rw [hcells] at h3;cases h3;exact ⟨u,by rw [Nat.add_assoc];exact h4,h2⟩
 have:=Rep.sl (σ:=VZ w) (((List.range len).map f).map F) b off cap (P.cellsOf e) cells (fun i j=>(cells[off+i*P.cellsOf e+j]?).getD undef) hcells (by rw [hll];exact hl) hm (fun i x hi=>by rw [(hget i x hi).2,hF])
  (fun i x j c hi hj=>by
    obtain ⟨u,h1,_⟩:=hcell i x j c hi hj;rw [h1];rfl) (fun i x j c hi hj=>by
    obtain ⟨u,h1,h2⟩:=hcell i x j c hi hj;rw [h1];exact h2)
 rw [hll] at this;exact this
end
section
variable {H:Type} {enc:TypeId×Value->H} {w:World}
def x6t (i:TyI):Array Field:=match i.desc with
 | .struct fs=>fs
 | _ => #[]
instance:Inhabited X:=⟨.mk 0 0 [] []⟩
instance:Inhabited Arg:=⟨⟨false,[],default⟩⟩
instance:Inhabited S:=⟨.mk 0 0 [] [] [] default false [] [] []⟩
instance:Inhabited Param:=⟨⟨[],false⟩⟩
instance:Inhabited Pr:=⟨⟨[],[],[],[],[]⟩⟩
noncomputable abbrev Rd (H:Type) (enc:TypeId×Value->H) (w:World) (n:Nat) (t:TypeId) (cs:List Value):Option (DataW H×List MemPlace):=DataW.trod enc Tryz.prog w 0 (fun _=>true) true n t cs
theorem DG {n:Nat} {t:TypeId} {cs:List Value} {x:DataW H×List MemPlace} (ht:Tryz.prog.underlying t=some (.slice 9)) (h:Rd H enc w n t cs=some x) : ∃ l:List Str,RepCs (VZ w) [QP l] cs :=
 BB AV.str (fun _=>rfl) ht (by kernel_rfl) (fun _=>rfl) Nat.one_pos (fun m cs' y _ hy=>q1g (by kernel_rfl) hy) h
theorem z7w : ∀ (n:Nat) (cs:List Value) (x:DataW H×List MemPlace),Rd H enc w n 36 cs=some x -> ∃ e:X,RepCs (VZ w) e.cells cs:=by
 intro n;induction n using Nat.strongRecOn with
 | _ n ih =>
   intro cs x h;obtain ⟨xs,m,rfl,_,hlen,hxl,hf⟩:=DataW.trod_struct (fs:=x6t w3d) (by kernel_rfl) h;replace hlen:cs.length=4:=hlen.trans (by kernel_rfl);have fld:=fun (i:Nat) (f:Field) (hi:(x6t w3d)[i]? = some f)=>(hf i f hi).trans (List.getElem?_eq_getElem (by rw [hxl];exact (Array.getElem?_eq_some_iff.1 hi).1));obtain ⟨op,h0⟩:=q8z (by kernel_rfl) (fld 0 _ rfl);obtain ⟨nn,h1⟩:=q8z (by kernel_rfl) (fld 1 _ rfl);obtain ⟨nm,h2⟩:=q1g (by kernel_rfl) (fld 2 _ rfl);obtain ⟨ks,h3⟩:=BB (fun x:X => .agg x.cells) (fun _=>rfl) (e:=36) (sz:=4) (by kernel_rfl) (by kernel_rfl) (fun _=>rfl) (by decide) (fun m' cs' y hm hy=>ih m' (by omega) cs' y hy) (fld 3 _ rfl);refine ⟨.mk op nn nm ks,?_⟩;have:=RepCs.step (o:=0) (k:=1) h0 (RepCs.step (o:=1) (k:=1) h1 (RepCs.step (o:=2) (k:=1) h2 (RepCs.step (o:=3) (k:=1) h3 (RepCs.fin hlen))));unfold X.cells;rw [X.avs_eq];exact this
theorem z6n (n:Nat) (cs:List Value) (x:DataW H×List MemPlace) (h:Rd H enc w n 126 cs=some x) : ∃ e:Arg,RepCs (VZ w) e.cells cs:=by
 obtain ⟨xs,m,rfl,_,hlen,hxl,hf⟩:=DataW.trod_struct (fs:=x6t z8y) (by kernel_rfl) h;replace hlen:cs.length=6:=hlen.trans (by kernel_rfl);have fld:=fun (i:Nat) (f:Field) (hi:(x6t z8y)[i]? = some f)=>(hf i f hi).trans (List.getElem?_eq_getElem (by rw [hxl];exact (Array.getElem?_eq_some_iff.1 hi).1));obtain ⟨rf,h0⟩:=z0d (by kernel_rfl) (fld 0 _ rfl);obtain ⟨nm,h1⟩:=q1g (by kernel_rfl) (fld 1 _ rfl);obtain ⟨e,h2⟩:=z7w _ _ _ (fld 2 _ rfl);refine ⟨⟨rf,nm,e⟩,?_⟩;have:=RepCs.step (o:=0) (k:=1) h0 (RepCs.step (o:=1) (k:=1) h1 (RepCs.step (o:=2) (k:=4) h2 (RepCs.fin hlen)));exact this
theorem z8t : ∀ (n:Nat) (cs:List Value) (x:DataW H×List MemPlace),Rd H enc w n 40 cs=some x -> ∃ e:S,RepCs (VZ w) e.cells cs:=by
 intro n;induction n using Nat.strongRecOn with
 | _ n ih =>
   intro cs x h;obtain ⟨xs,m,rfl,_,hlen,hxl,hf⟩:=DataW.trod_struct (fs:=x6t w5k) (by kernel_rfl) h;replace hlen:cs.length=13:=hlen.trans (by kernel_rfl);have fld:=fun (i:Nat) (f:Field) (hi:(x6t w5k)[i]? = some f)=>(hf i f hi).trans (List.getElem?_eq_getElem (by rw [hxl];exact (Array.getElem?_eq_some_iff.1 hi).1));obtain ⟨id,h0⟩:=q8z (by kernel_rfl) (fld 0 _ rfl);obtain ⟨kd,h1⟩:=q8z (by kernel_rfl) (fld 1 _ rfl);obtain ⟨lb,h2⟩:=DG (by kernel_rfl) (fld 2 _ rfl);obtain ⟨nm,h3⟩:=q1g (by kernel_rfl) (fld 3 _ rfl);obtain ⟨pc,h4⟩:=q1g (by kernel_rfl) (fld 4 _ rfl);obtain ⟨e,h5⟩:=z7w _ _ _ (fld 5 _ rfl);obtain ⟨hs,h6⟩:=z0d (by kernel_rfl) (fld 6 _ rfl);obtain ⟨ar,h7⟩:=BB (fun x:Arg => .agg x.cells) (fun _=>rfl) (e:=126) (sz:=6) (by kernel_rfl) (by kernel_rfl) (fun _=>rfl) (by decide) (fun m' cs' y hm hy=>z6n m' cs' y hy) (fld 7 _ rfl);obtain ⟨th,h8⟩:=BB (fun x:S => .agg x.cells) (fun _=>rfl) (e:=40) (sz:=13) (by kernel_rfl) (by kernel_rfl) (fun _=>rfl) (by decide) (fun m' cs' y hm hy=>ih m' (by omega) cs' y hy) (fld 8 _ rfl);obtain ⟨el,h9⟩:=BB (fun x:S => .agg x.cells) (fun _=>rfl) (e:=40) (sz:=13) (by kernel_rfl) (by kernel_rfl) (fun _=>rfl) (by decide) (fun m' cs' y hm hy=>ih m' (by omega) cs' y hy) (fld 9 _ rfl);refine ⟨.mk id kd lb nm pc e hs ar th el,?_⟩;have:=RepCs.step (o:=0) (k:=1) h0 (RepCs.step (o:=1) (k:=1) h1 (RepCs.step (o:=2) (k:=1) h2 (RepCs.step (o:=3) (k:=1) h3 (RepCs.step (o:=4) (k:=1) h4 (RepCs.step (o:=5) (k:=4) h5 (RepCs.step (o:=9) (k:=1) h6 (RepCs.step (o:=10) (k:=1) h7 (RepCs.step (o:=11) (k:=1) h8 (RepCs.step (o:=12) (k:=1) h9 (RepCs.fin hlen))))))))));unfold S.cells;rw [S.avs_eq,S.avs_eq];exact this
theorem x5t (n:Nat) (cs:List Value) (x:DataW H×List MemPlace) (h:Rd H enc w n 97 cs=some x) : ∃ e:Param,RepCs (VZ w) e.cells cs:=by
 obtain ⟨xs,m,rfl,_,hlen,hxl,hf⟩:=DataW.trod_struct (fs:=x6t w4k) (by kernel_rfl) h;replace hlen:cs.length=2:=hlen.trans (by kernel_rfl);have fld:=fun (i:Nat) (f:Field) (hi:(x6t w4k)[i]? = some f)=>(hf i f hi).trans (List.getElem?_eq_getElem (by rw [hxl];exact (Array.getElem?_eq_some_iff.1 hi).1));obtain ⟨nm,h0⟩:=q1g (by kernel_rfl) (fld 0 _ rfl);obtain ⟨rf,h1⟩:=z0d (by kernel_rfl) (fld 1 _ rfl);refine ⟨⟨nm,rf⟩,?_⟩;have:=RepCs.step (o:=0) (k:=1) h0 (RepCs.step (o:=1) (k:=1) h1 (RepCs.fin hlen));exact this
theorem z9c (n:Nat) (cs:List Value) (x:DataW H×List MemPlace) (h:Rd H enc w n 90 cs=some x) : ∃ e:Pr,RepCs (VZ w) e.cells cs:=by
 obtain ⟨xs,m,rfl,_,hlen,hxl,hf⟩:=DataW.trod_struct (fs:=x6t w4o) (by kernel_rfl) h;replace hlen:cs.length=5:=hlen.trans (by kernel_rfl);have fld:=fun (i:Nat) (f:Field) (hi:(x6t w4o)[i]? = some f)=>(hf i f hi).trans (List.getElem?_eq_getElem (by rw [hxl];exact (Array.getElem?_eq_some_iff.1 hi).1));obtain ⟨nm,h0⟩:=q1g (by kernel_rfl) (fld 0 _ rfl);obtain ⟨pm,h1⟩:=BB (fun x:Param => .agg x.cells) (fun _=>rfl) (e:=97) (sz:=2) (by kernel_rfl) (by kernel_rfl) (fun _=>rfl) (by decide) (fun m' cs' y hm hy=>x5t m' cs' y hy) (fld 1 _ rfl);obtain ⟨vs,h2⟩:=DG (by kernel_rfl) (fld 2 _ rfl);obtain ⟨bd,h3⟩:=BB (fun x:S => .agg x.cells) (fun _=>rfl) (e:=40) (sz:=13) (by kernel_rfl) (by kernel_rfl) (fun _=>rfl) (by decide) (fun m' cs' y hm hy=>z8t m' cs' y hy) (fld 3 _ rfl);obtain ⟨fn,h4⟩:=DG (by kernel_rfl) (fld 4 _ rfl);refine ⟨⟨nm,pm,vs,bd,fn⟩,?_⟩;have:=RepCs.step (o:=0) (k:=1) h0 (RepCs.step (o:=1) (k:=1) h1 (RepCs.step (o:=2) (k:=1) h2 (RepCs.step (o:=3) (k:=1) h3 (RepCs.step (o:=4) (k:=1) h4 (RepCs.fin hlen)))));unfold Pr.cells eSs;rw [S.avs_eq];exact this
theorem z8s (n:Nat) (cs:List Value) (x:DataW H×List MemPlace) (h:Rd H enc w n 25 cs=some x) : ∃ e:Pg,RepCs (VZ w) e.cells cs:=by
 obtain ⟨xs,m,rfl,_,hlen,hxl,hf⟩:=DataW.trod_struct (fs:=x6t w2o) (by kernel_rfl) h;replace hlen:cs.length=2:=hlen.trans (by kernel_rfl);have fld:=fun (i:Nat) (f:Field) (hi:(x6t w2o)[i]? = some f)=>(hf i f hi).trans (List.getElem?_eq_getElem (by rw [hxl];exact (Array.getElem?_eq_some_iff.1 hi).1));obtain ⟨gl,h0⟩:=DG (by kernel_rfl) (fld 0 _ rfl);obtain ⟨ps,h1⟩:=BB (fun x:Pr => .agg x.cells) (fun _=>rfl) (e:=90) (sz:=5) (by kernel_rfl) (by kernel_rfl) (fun _=>rfl) (by decide) (fun m' cs' y hm hy=>z9c m' cs' y hy) (fld 1 _ rfl);refine ⟨⟨gl,ps⟩,?_⟩;have:=RepCs.step (o:=0) (k:=1) h0 (RepCs.step (o:=1) (k:=1) h1 (RepCs.fin hlen));exact this

theorem z9v {v:Value} {base:Nat} {d:DataW H} {ps:List MemPlace} (hv:Value.okWide Tryz.prog w .any base 25 v) (h:DataW.Trod enc Tryz.prog w 0 (fun _=>true) true 25 v d ps) : ∃ p:Pg,Rep (VZ w) (.agg p.cells) v:=by
 have hu:Tryz.prog.underlying 25=some (.struct (x6t w2o)):=by kernel_rfl
 unfold Value.okWide at hv;rw [hu] at hv;obtain ⟨cs,rfl,_,_⟩:=hv;obtain ⟨n,hn⟩:=h;obtain ⟨p,hp⟩:=z8s n _ _ hn;exact ⟨p,hp.of_agg⟩
end
section
variable {H:Type} {enc:TypeId×Value->H} {w:World}
theorem w0v {n:Nat} {t:TypeId} {cs:List Value} {x:DataW H×List MemPlace} (ht:Tryz.prog.underlying t=some (.slice 2)) (h:Rd H enc w n t cs=some x) : ∃ l:List Int,RepCs (VZ w) [XW l] cs :=
 BB (AV.int .i64) (fun _=>rfl) ht (by kernel_rfl) (fun _=>rfl) Nat.one_pos (fun m cs' y _ hy=>q8z (by kernel_rfl) hy) h
theorem w0u {v:Value} {base:Nat} {d:DataW H} {ps:List MemPlace} (hv:Value.okWide Tryz.prog w .any base 54 v) (h:DataW.Trod enc Tryz.prog w 0 (fun _=>true) true 54 v d ps) : ∃ l:List Int,Rep (VZ w) (XW l) v:=by
 have hu:Tryz.prog.underlying 54=some (.slice 2):=by kernel_rfl
 unfold Value.okWide at hv;rw [hu] at hv;obtain ⟨n,hn⟩:=h;obtain ⟨l,hl,hp⟩:=w0v hu hn;obtain ⟨u,h1,h2⟩:=hp 0 _ rfl;refine ⟨l,?_⟩;have hv:Cell.okWide Tryz.prog w .any base 54 v:=hv;cases v;all_goals first
  | (cases h1;exact h2)
  | (exfalso;unfold Cell.okWide at hv;rw [hu] at hv;exact hv)
end
theorem w2c {p:Prop} [Decidable p] {A B:Prop} (h:p->A) (h' : ¬p->B):Br (decide p) A B:=⟨fun e=>h (by simpa using e),fun e=>h' (by simpa using e)⟩
theorem w0l {p:Prop} [Decidable p] {A B:Prop} (h:p->A) (h' : ¬p->B):Br (!decide p) B A:=⟨fun e=>h' (by simpa using e),fun e=>h (by simpa using e)⟩
theorem Br.n {b:Bool} {A B:Prop} (h:b=true->B) (h':b=false->A):Br (!b) A B:=⟨fun e=>h' (by simpa using e),fun e=>h (by simpa using e)⟩
theorem ByteK.at {s:List UInt8} {k:Nat} {K:UInt8->Prop} (hk:k<s.length) (h:K s[k]):ByteK s k K:=⟨k,s[k],rfl,by simp,h⟩
theorem X.avs_len (l:List X):(X.avs l).length=l.length:=by rw [X.avs_eq];simp
theorem S.avs_len (l:List S):(S.avs l).length=l.length:=by rw [S.avs_eq];simp
theorem IdxK.map {α:Type} {f:α->AV} {l:List α} {sz k:Nat} {K:List AV->Prop} (hk:k<(l.map f).length) (hs : ∀ x,(f x).cells.length=sz) (h:K (f (l[k]'(by simpa using hk))).cells):IdxK (l.map f) sz k K :=
 ⟨k,f (l[k]'(by simpa using hk)),rfl,by simp at hk;simp [hk],hs _,h⟩
theorem IdxK.xs {l:List X} {k:Nat} {K:List AV->Prop} (hk:k<(X.avs l).length) (h:K (l[k]'(by rw [X.avs_len] at hk;exact hk)).cells):IdxK (X.avs l) 4 k K:=by
 rw [X.avs_len] at hk;refine ⟨k,.agg l[k].cells,rfl,?_,rfl,h⟩;rw [X.avs_eq];simp [hk]
theorem QF {l:List S} {k:Nat} {K:List AV->Prop} (hk:k<(S.avs l).length) (h:K (l[k]'(by rw [S.avs_len] at hk;exact hk)).cells):IdxK (S.avs l) 13 k K:=by
 rw [S.avs_len] at hk;refine ⟨k,.agg l[k].cells,rfl,?_,rfl,h⟩;rw [S.avs_eq];simp [hk]
theorem RetK.tt {H:Heap} {b:Bool} (h:b=true):RetK H (.p .tt) (fun r=>r = .bool b):=⟨_,.p (Sub.tt h),rfl⟩
theorem RetK.ff {H:Heap} {b:Bool} (h:b=false):RetK H (.p .ff) (fun r=>r = .bool b):=⟨_,.p (Sub.ff h),rfl⟩
theorem RetK.bool {H:Heap} {a b:Bool} (h:a=b):RetK H (.p (.bool a)) (fun r=>r = .bool b):=⟨_,.p (Sub.bool h),rfl⟩
theorem RetK.int {H:Heap} {k:IntKind} {m n:Int} (h:m=n):RetK H (.p (.int k m)) (fun r=>r = .int k n):=⟨_,.p (Sub.int h),rfl⟩
theorem RetK.p {H:Heap} {a b:AV} (h:a=b):RetK H (.p a) (fun r=>r=b):=⟨_,.p (Sub.of_eq h),rfl⟩
theorem QJ {α:Type} {l:List α} {j:Nat} (h:j<l.length):l.drop j=l[j]::l.drop (j+1):=by simp
theorem q1r {α:Type} {l:List α} {p:α->Bool} {j:Nat} (hj:j<l.length) (h:p l[j]=true):(l.drop (j+1)).all p=(l.drop j).all p:=by
 rw [QJ hj,all_cons,h,Bool.true_and]
theorem q4i {α:Type} {l:List α} {p:α->Bool} {j:Nat} (hj:j<l.length) (h:p l[j]=false):(l.drop j).all p=false:=by
 rw [QJ hj,all_cons,h,Bool.false_and]
theorem q2x {α:Type} {l:List α} {p:α->Bool} {j:Nat} (hj:l.length<=j):(l.drop j).all p=true:=by
 rw [List.drop_eq_nil_of_le hj];rfl
theorem q4z {α:Type} {l:List α} {p:α->Bool} {j:Nat} (hj:j<l.length) (h:p l[j]=false):(l.drop (j+1)).any p=(l.drop j).any p:=by
 rw [QJ hj,any_cons,h,Bool.false_or]
theorem x2k {α:Type} {l:List α} {p:α->Bool} {j:Nat} (hj:j<l.length) (h:p l[j]=true):(l.drop j).any p=true:=by
 rw [QJ hj,any_cons,h,Bool.true_or]
theorem PN {α:Type} {l:List α} {p:α->Bool} {j:Nat} (hj:l.length<=j):(l.drop j).any p=false:=by
 rw [List.drop_eq_nil_of_le hj];rfl
theorem z5f {α β:Type} {l:List α} {g:α->β} {j:Nat} (hj:j<l.length):(l.take (j+1)).map g=(l.take j).map g++[g l[j]]:=by
 rw [List.take_succ_eq_append_getElem hj,List.map_append];rfl
def idxF {α:Type} (p:α->Bool) (l:List α):Int:=bif l.any p then (l.findIdx p:Nat) else -1
theorem z5u {α:Type} {l:List α} {p:α->Bool} {j:Nat} (hj:j<l.length) (h:p l[j]=false):(l.drop j).findIdx p=(l.drop (j+1)).findIdx p+1:=by
 rw [QJ hj,List.findIdx_cons,h,cond_false]
theorem w2z {α:Type} {l:List α} {p:α->Bool} {j:Nat} (hj:j<l.length) (h:p l[j]=true):(l.drop j).findIdx p=0:=by
 rw [QJ hj,List.findIdx_cons,h,cond_true]
theorem PD {α:Type} {p:α->Bool} {l:List α}:decide (idxF p l≥0)=l.any p:=by
 unfold idxF;cases l.any p<;>simp
theorem LN {α:Type} {p:α->Bool} {l:List α} {j:Nat} (hj:j<l.length) (h:p l[j]=true) (h1:(l.drop j).any p=l.any p) (h2:l.findIdx p=j+(l.drop j).findIdx p):idxF p l=j:=by
 unfold idxF;rw [<- h1,x2k hj h,cond_true,h2,w2z hj h];rfl
theorem q7p {α:Type} {p:α->Bool} {l:List α} (h:l.any p=false):idxF p l = -1:=by
 unfold idxF;rw [h];rfl
theorem q5q {P:Program} {T:Tab} {N:Nat} {ops:Array Oper} {info:Info} {id:Nat} {K:St->Prop} {s:St} (S1:St) (h:DrawK P T N info id ops (fun s=>x6g info id s fun s3=>Le N s3 S1) s) (hK:x6g info id S1 K) :
  DrawK P T N info id ops (fun s=>x6g info id s K) s:=by
 refine ⟨⟨fun σ β a w hr=>Code.wp_mono (fun e a' w' hk => ?_) (h.ok.ok σ β a w hr)⟩⟩;obtain ⟨σ',β',s',hk,hr',hl⟩:=hk;cases e<;>simp only at hk ⊢;obtain ⟨s2,h1,h2⟩:=NU (N:=N) hk;obtain ⟨σ2,β2,hr2,hl2⟩:=(h2.trans h1) σ' β' a' w' hr';exact ⟨σ2,β2,S1,hK,hr2,hl.trans hl2⟩
theorem x8p {P:Program} {T:Tab} {N:Nat} {ops:Array Oper} {info:Info} {id:Nat} {K:St->Prop} {s:St} (hT:TabOK P T) (hm:P.follows .mixedOrders=true) (hok:(bif q6n ops.size ops.toList then bif ble (info.sched id).len ops.size then ZT ops [] (info.sched id) else false else false)=true)
  (h:drW P T N ops (info.sched id) s K):DrawK P T N info id ops K s:=DrawK.of hT hm _ hok h
theorem bD {p:Prop} [Decidable p] {A B:Prop} (h:p->A) (h' : ¬p->B):Br (decide p) A B:=w2c h h'
theorem bE {p:Prop} [Decidable p] {A B:Prop} (h:p->A) (h' : ¬p->B):Br (!decide p) B A:=w0l h h'
theorem bB {b:Bool} {A B:Prop} (h:b=true->A) (h':b=false->B):Br b A B:=⟨h,h'⟩
theorem bN {b:Bool} {A B:Prop} (h:b=true->B) (h':b=false->A):Br (!b) A B:=Br.n h h'
theorem iM {n:Nat} {K:Prop} (h:n<=9223372036854775807->K):n<=9223372036854775807->K:=h
theorem wI {n:Int} {K:Int->Prop} (hk:K n) (h1 : -9223372036854775808<=n:=by omega) (h2:n<=9223372036854775807:=by omega):Wr .i64 n K:=Wr.i64 h1 h2 hk
theorem aD {a b c:Prop} (h:c) (h1:a:=by decide) (h2:b:=by decide):(a∧b)∧c:=⟨⟨h1,h2⟩,h⟩
theorem aR {a b c d:Prop} (h:d) (h1:a:=by exact rfl) (h2:b:=by exact rfl) (h3:c:=by decide):(a∧b∧c)∧d:=⟨⟨h1,h2,h3⟩,h⟩
theorem bP {es:List AV} {sz:Nat} {out:List LV} {Kp Ko:Prop} (hK:Kp) (hx : ∀ x∈es,x.cells.length=sz:=by intro x hx;rcases List.mem_singleton.1 hx with rfl;rfl) (ho:out=(es.flatMap AV.cells).map .p:=by exact rfl):BsK es sz out Kp Ko := .pure hx ho hK
theorem iA {α:Type} {f:α->AV} {l:List α} {sz k:Nat} {K:List AV->Prop} (h : ∀ hk:k<l.length,K (f l[k]).cells) (hk:k<(l.map f).length:=by omega) (hs : ∀ x,(f x).cells.length=sz:=by intro _;rfl):IdxK (l.map f) sz k K:=IdxK.map hk hs (h (by simpa using hk))
theorem dA {N:Nat} {ops:Array Oper} {info:Info} {id:Nat} {K:St->Prop} {s:St} (h:drW Tryz.prog tab N ops (info.sched id) s K) (hok:(bif q6n ops.size ops.toList then bif ble (info.sched id).len ops.size then ZT ops [] (info.sched id) else false else false)=true:=by kernel_rfl):DrawK Tryz.prog tab N info id ops K s:=x8p QU mixed hok h
theorem cP {P:Program} {N:Nat} {g:FuncId} {args:List LV} {dst:Option Nat} {s:St} {K:St->Prop} {avs:List AV} {c:AV} (hs:SpecP P g avs fun r=>r=c) (h:setD N s.sl dst (.p c) fun sl=>K ⟨sl,s.H⟩) (ha:ArgP args avs:=by (repeat (refine ArgP.cons ?_ ?_;first|exact Sub.refl _|exact Sub.tt rfl|exact Sub.ff rfl|exact Sub.int (by omega)));exact ArgP.nil):CallK P N g args dst s K:=CallK.pure hs ha fun _ e=>e▸h
theorem lE {N:Nat} {s:St} {sl':List (Nat×LV)} {H':Heap} (hnd:(H'.map (·.1)).Nodup:=by simp) (hsl:WkS [] s.sl sl':=by (repeat (refine WkS.cons ?_ ?_;exact Wk.refl _));exact WkS.nil) (hH:WkH [] s.H H':=by (repeat refine WkH.cons rfl (CWk.refl _) ?_);exact WkH.nil):Le N s ⟨sl',H'⟩:=Le.mk [] (by simp) (by simp) hnd hsl hH
theorem sB (info:Info) {f:FuncId} {fn:Func} {c:Code} (hf:Tryz.prog.funcs[f]? = some fn) (hb:fn.body=some c) (hgo : ∀ (vals:Array Value) (w:World),(callFunc f vals).run Tryz.prog w = .ok (.enter f vals) w)
  {args:List AV} {R:AV->Prop} (h:W Tryz.prog tab fn.ntmps info c (w5c tab fn.results R) ⟨q9d args 0,[]⟩) (hlen:args.length<=fn.ntmps:=by exact Nat.le_of_ble_eq_true rfl):SpecP Tryz.prog f args R:=SpecP.body info QU hf hb hgo hlen h
theorem sH (info:Info) {f:FuncId} {fn:Func} {c:Code} (hf:Tryz.prog.funcs[f]? = some fn) (hb:fn.body=some c) (hgo : ∀ (vals:Array Value) (w:World),(callFunc f vals).run Tryz.prog w = .ok (.enter f vals) w)
  {args:List LV} {H:Heap} {R:LV->Heap->Prop} (h:W Tryz.prog tab fn.ntmps info c (w5t tab fn.results R) ⟨MV args 0,H⟩) (hlen:args.length<=fn.ntmps:=by exact Nat.le_of_ble_eq_true rfl):SpecH Tryz.prog f args H R:=SpecH.body info QU hf hb hgo hlen h
end Go.Ab
