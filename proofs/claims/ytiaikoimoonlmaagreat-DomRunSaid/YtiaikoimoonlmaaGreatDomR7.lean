/- The table of the types that the program's text names. -/
import Derived.Test.YtiaikoimoonlmaaGreatChecked
import Derived.Deep.Slices
import Derived.Test.YtiaikoimoonlmaaGreatDomR6
set_option linter.unusedSimpArgs false
set_option linter.unusedVariables false
set_option maxRecDepth 100000
set_option maxHeartbeats 16000000
open List (map_cons map_nil)
open Nat (beq)
namespace Go.Ab
open Go.Proofs
def ty0:TyI:=⟨Go.TypeDesc.tuple #[],1,0,(.tuple #[])⟩
def ty2:TyI:=⟨Go.TypeDesc.int (Go.IntKind.i64),1,8,(.int .i64 0)⟩
def ty3:TyI:=⟨Go.TypeDesc.int (Go.IntKind.i64),1,8,(.int .i64 0)⟩
def ty4:TyI:=⟨Go.TypeDesc.bool,1,1,(.bool false)⟩
def ty5:TyI:=⟨Go.TypeDesc.int (Go.IntKind.u8),1,1,(.int .u8 0)⟩
def ty9:TyI:=⟨Go.TypeDesc.string,1,16,(.string ByteArray.empty)⟩
def v6k:TyI:=⟨Go.TypeDesc.interface #[],1,16,.nilIface⟩
def v6q:TyI:=⟨Go.TypeDesc.slice 9,1,24,(.slice none 0 0)⟩
def v6n:TyI:=⟨Go.TypeDesc.slice 90,1,24,(.slice none 0 0)⟩
def v2g:TyI:=⟨Go.TypeDesc.struct #[{ name := "Globals",type:=22,offset:=0,embedded:=false,tag := "",pkgPath := "",byteOffset:=0 },{ name := "Procs",type:=23,offset:=1,embedded:=false,tag := "",pkgPath := "",byteOffset:=24 }],2,48,(.agg #[(.slice none 0 0),(.slice none 0 0)])⟩
def v6l:TyI:=⟨Go.TypeDesc.slice 36,1,24,(.slice none 0 0)⟩
def v3u:TyI:=⟨Go.TypeDesc.struct #[{ name := "Op",type:=3,offset:=0,embedded:=false,tag := "",pkgPath := "",byteOffset:=0 },{ name := "N",type:=2,offset:=1,embedded:=false,tag := "",pkgPath := "",byteOffset:=8 },{ name := "Name",type:=9,offset:=2,embedded:=false,tag := "",pkgPath := "",byteOffset:=16 },{ name := "Kids",type:=34,offset:=3,embedded:=false,tag := "",pkgPath := "",byteOffset:=32 }],4,56,(.agg #[(.int .i64 0),(.int .i64 0),(.string ByteArray.empty),(.slice none 0 0)])⟩
def v5c:TyI:=⟨Go.TypeDesc.slice 126,1,24,(.slice none 0 0)⟩
def v5o:TyI:=⟨Go.TypeDesc.slice 40,1,24,(.slice none 0 0)⟩
def v3n:TyI:=⟨Go.TypeDesc.struct #[{ name := "Id",type:=3,offset:=0,embedded:=false,tag := "",pkgPath := "",byteOffset:=0 },{ name := "Kind",type:=3,offset:=1,embedded:=false,tag := "",pkgPath := "",byteOffset:=8 },{ name := "Labels",type:=22,offset:=2,embedded:=false,tag := "",pkgPath := "",byteOffset:=16 },{ name := "Name",type:=9,offset:=3,embedded:=false,tag := "",pkgPath := "",byteOffset:=40 },{ name := "Proc",type:=9,offset:=4,embedded:=false,tag := "",pkgPath := "",byteOffset:=56 },{ name := "X",type:=36,offset:=5,embedded:=false,tag := "",pkgPath := "",byteOffset:=72 },{ name := "Has",type:=4,offset:=9,embedded:=false,tag := "",pkgPath := "",byteOffset:=128 },{ name := "Args",type:=37,offset:=10,embedded:=false,tag := "",pkgPath := "",byteOffset:=136 },{ name := "Then",type:=38,offset:=11,embedded:=false,tag := "",pkgPath := "",byteOffset:=160 },{ name := "Else",type:=38,offset:=12,embedded:=false,tag := "",pkgPath := "",byteOffset:=184 }],13,208,(.agg #[(.int .i64 0),(.int .i64 0),(.slice none 0 0),(.string ByteArray.empty),(.string ByteArray.empty),(.int .i64 0),(.int .i64 0),(.string ByteArray.empty),(.slice none 0 0),(.bool false),(.slice none 0 0),(.slice none 0 0),(.slice none 0 0)])⟩
def v6u:TyI:=⟨Go.TypeDesc.struct #[{ name := "S",type:=40,offset:=0,embedded:=false,tag := "",pkgPath := "",byteOffset:=0 },{ name := "Deep",type:=3,offset:=13,embedded:=false,tag := "",pkgPath := "",byteOffset:=208 },{ name := "In",type:=3,offset:=14,embedded:=false,tag := "",pkgPath := "",byteOffset:=216 },{ name := "Else",type:=4,offset:=15,embedded:=false,tag := "",pkgPath := "",byteOffset:=224 }],16,232,(.agg #[(.int .i64 0),(.int .i64 0),(.slice none 0 0),(.string ByteArray.empty),(.string ByteArray.empty),(.int .i64 0),(.int .i64 0),(.string ByteArray.empty),(.slice none 0 0),(.bool false),(.slice none 0 0),(.slice none 0 0),(.slice none 0 0),(.int .i64 0),(.int .i64 0),(.bool false)])⟩
def v6c:TyI:=⟨Go.TypeDesc.slice 70,1,24,(.slice none 0 0)⟩
def v5s:TyI:=⟨Go.TypeDesc.slice 2,1,24,(.slice none 0 0)⟩
def v6e:TyI:=⟨Go.TypeDesc.slice 139,1,24,(.slice none 0 0)⟩
def v6b:TyI:=⟨Go.TypeDesc.slice 63,1,24,(.slice none 0 0)⟩
def v6s:TyI:=⟨Go.TypeDesc.struct #[{ name := "End",type:=3,offset:=0,embedded:=false,tag := "",pkgPath := "",byteOffset:=0 },{ name := "Steps",type:=3,offset:=1,embedded:=false,tag := "",pkgPath := "",byteOffset:=8 },{ name := "Reads",type:=3,offset:=2,embedded:=false,tag := "",pkgPath := "",byteOffset:=16 },{ name := "Out",type:=54,offset:=3,embedded:=false,tag := "",pkgPath := "",byteOffset:=24 },{ name := "Trace",type:=58,offset:=4,embedded:=false,tag := "",pkgPath := "",byteOffset:=48 }],5,72,(.agg #[(.int .i64 0),(.int .i64 0),(.int .i64 0),(.slice none 0 0),(.slice none 0 0)])⟩
def v6m:TyI:=⟨Go.TypeDesc.struct #[{ name := "Id",type:=3,offset:=0,embedded:=false,tag := "",pkgPath := "",byteOffset:=0 },{ name := "Vals",type:=54,offset:=1,embedded:=false,tag := "",pkgPath := "",byteOffset:=8 }],2,32,(.agg #[(.int .i64 0),(.slice none 0 0)])⟩
def v6v:TyI:=⟨Go.TypeDesc.slice 42,1,24,(.slice none 0 0)⟩
def v6p:TyI:=⟨Go.TypeDesc.slice 3,1,24,(.slice none 0 0)⟩
def v6w:TyI:=⟨Go.TypeDesc.tuple #[3,3],1,0,(.tuple #[(.int .i64 0),(.int .i64 0)])⟩
def v6h:TyI:=⟨Go.TypeDesc.slice 97,1,24,(.slice none 0 0)⟩
def v5w:TyI:=⟨Go.TypeDesc.struct #[{ name := "Name",type:=9,offset:=0,embedded:=false,tag := "",pkgPath := "",byteOffset:=0 },{ name := "Params",type:=88,offset:=1,embedded:=false,tag := "",pkgPath := "",byteOffset:=16 },{ name := "Vars",type:=22,offset:=2,embedded:=false,tag := "",pkgPath := "",byteOffset:=40 },{ name := "Body",type:=38,offset:=3,embedded:=false,tag := "",pkgPath := "",byteOffset:=64 },{ name := "End",type:=22,offset:=4,embedded:=false,tag := "",pkgPath := "",byteOffset:=88 }],5,112,(.agg #[(.string ByteArray.empty),(.slice none 0 0),(.slice none 0 0),(.slice none 0 0),(.slice none 0 0)])⟩
def v6g:TyI:=⟨Go.TypeDesc.func #[3,3] #[3] false,1,8,.nilFunc⟩
def v3q:TyI:=⟨Go.TypeDesc.struct #[{ name := "Name",type:=9,offset:=0,embedded:=false,tag := "",pkgPath := "",byteOffset:=0 },{ name := "Ref",type:=4,offset:=1,embedded:=false,tag := "",pkgPath := "",byteOffset:=16 }],2,24,(.agg #[(.string ByteArray.empty),(.bool false)])⟩
def v5z:TyI:=⟨Go.TypeDesc.int (Go.IntKind.i64),1,8,(.int .i64 0)⟩
def v2m:TyI:=⟨Go.TypeDesc.tuple #[60,101],1,0,(.tuple #[(.agg #[(.int .i64 0),(.int .i64 0),(.int .i64 0),(.slice none 0 0),(.slice none 0 0)]),(.int .i64 0)])⟩
def v3a:TyI:=⟨Go.TypeDesc.struct #[{ name := "Code",type:=101,offset:=0,embedded:=false,tag := "",pkgPath := "",byteOffset:=0 },{ name := "At",type:=3,offset:=1,embedded:=false,tag := "",pkgPath := "",byteOffset:=8 }],2,16,(.agg #[(.int .i64 0),(.int .i64 0)])⟩
def v2r:TyI:=⟨Go.TypeDesc.pointer 154,1,8,(.pointer none)⟩
def w7j:TyI:=⟨Go.TypeDesc.struct #[{ name := "Ref",type:=4,offset:=0,embedded:=false,tag := "",pkgPath := "",byteOffset:=0 },{ name := "Name",type:=9,offset:=1,embedded:=false,tag := "",pkgPath := "",byteOffset:=8 },{ name := "X",type:=36,offset:=2,embedded:=false,tag := "",pkgPath := "",byteOffset:=24 }],6,80,(.agg #[(.bool false),(.string ByteArray.empty),(.int .i64 0),(.int .i64 0),(.string ByteArray.empty),(.slice none 0 0)])⟩
def v4i:TyI:=⟨Go.TypeDesc.tuple #[3,4],1,0,(.tuple #[(.int .i64 0),(.bool false)])⟩
def v3t:TyI:=⟨Go.TypeDesc.pointer 137,1,8,(.pointer none)⟩
def v2c:TyI:=⟨Go.TypeDesc.slice 4,1,24,(.slice none 0 0)⟩
def v3y:TyI:=⟨Go.TypeDesc.struct #[{ name := "S",type:=117,offset:=0,embedded:=false,tag := "",pkgPath := "",byteOffset:=0 },{ name := "Proc",type:=3,offset:=1,embedded:=false,tag := "",pkgPath := "",byteOffset:=8 },{ name := "N",type:=3,offset:=2,embedded:=false,tag := "",pkgPath := "",byteOffset:=16 },{ name := "Real",type:=56,offset:=3,embedded:=false,tag := "",pkgPath := "",byteOffset:=24 },{ name := "Live",type:=135,offset:=4,embedded:=false,tag := "",pkgPath := "",byteOffset:=48 }],5,72,(.agg #[(.pointer none),(.int .i64 0),(.int .i64 0),(.slice none 0 0),(.slice none 0 0)])⟩
def v5x:TyI:=⟨Go.TypeDesc.struct #[{ name := "From",type:=3,offset:=0,embedded:=false,tag := "",pkgPath := "",byteOffset:=0 },{ name := "To",type:=3,offset:=1,embedded:=false,tag := "",pkgPath := "",byteOffset:=8 },{ name := "Kind",type:=3,offset:=2,embedded:=false,tag := "",pkgPath := "",byteOffset:=16 }],3,24,(.agg #[(.int .i64 0),(.int .i64 0),(.int .i64 0)])⟩
def v3o:TyI:=⟨Go.TypeDesc.struct #[{ name := "S",type:=40,offset:=0,embedded:=false,tag := "",pkgPath := "",byteOffset:=0 },{ name := "Proc",type:=3,offset:=13,embedded:=false,tag := "",pkgPath := "",byteOffset:=208 },{ name := "Up",type:=3,offset:=14,embedded:=false,tag := "",pkgPath := "",byteOffset:=216 },{ name := "Next",type:=3,offset:=15,embedded:=false,tag := "",pkgPath := "",byteOffset:=224 },{ name := "Loop",type:=3,offset:=16,embedded:=false,tag := "",pkgPath := "",byteOffset:=232 }],17,240,(.agg #[(.int .i64 0),(.int .i64 0),(.slice none 0 0),(.string ByteArray.empty),(.string ByteArray.empty),(.int .i64 0),(.int .i64 0),(.string ByteArray.empty),(.slice none 0 0),(.bool false),(.slice none 0 0),(.slice none 0 0),(.slice none 0 0),(.int .i64 0),(.int .i64 0),(.int .i64 0),(.int .i64 0)])⟩
def v3r:TyI:=⟨Go.TypeDesc.slice 151,1,24,(.slice none 0 0)⟩
def v2i:TyI:=⟨Go.TypeDesc.struct #[{ name := "P",type:=25,offset:=0,embedded:=false,tag := "",pkgPath := "",byteOffset:=0 },{ name := "L",type:=152,offset:=2,embedded:=false,tag := "",pkgPath := "",byteOffset:=48 },{ name := "Lo",type:=70,offset:=3,embedded:=false,tag := "",pkgPath := "",byteOffset:=72 },{ name := "Hi",type:=70,offset:=4,embedded:=false,tag := "",pkgPath := "",byteOffset:=96 }],5,120,(.agg #[(.slice none 0 0),(.slice none 0 0),(.slice none 0 0),(.slice none 0 0),(.slice none 0 0)])⟩
def v2s:TyI:=⟨Go.TypeDesc.pointer 163,1,8,(.pointer none)⟩
def v3j:TyI:=⟨Go.TypeDesc.slice 164,1,24,(.slice none 0 0)⟩
def v5q:TyI:=⟨Go.TypeDesc.slice 218,1,24,(.slice none 0 0)⟩
def v4t:TyI:=⟨Go.TypeDesc.struct #[{ name := "s",type:=117,offset:=0,embedded:=false,tag := "",pkgPath := "whittler/run",byteOffset:=0 },{ name := "globals",type:=160,offset:=1,embedded:=false,tag := "",pkgPath := "whittler/run",byteOffset:=8 },{ name := "tape",type:=54,offset:=2,embedded:=false,tag := "",pkgPath := "whittler/run",byteOffset:=32 },{ name := "watch",type:=70,offset:=3,embedded:=false,tag := "",pkgPath := "whittler/run",byteOffset:=56 },{ name := "stack",type:=161,offset:=4,embedded:=false,tag := "",pkgPath := "whittler/run",byteOffset:=80 },{ name := "vals",type:=54,offset:=5,embedded:=false,tag := "",pkgPath := "whittler/run",byteOffset:=104 },{ name := "r",type:=60,offset:=6,embedded:=false,tag := "",pkgPath := "whittler/run",byteOffset:=128 }],11,200,(.agg #[(.pointer none),(.slice none 0 0),(.slice none 0 0),(.slice none 0 0),(.slice none 0 0),(.slice none 0 0),(.int .i64 0),(.int .i64 0),(.int .i64 0),(.slice none 0 0),(.slice none 0 0)])⟩
def v4l:TyI:=⟨Go.TypeDesc.pointer 2,1,8,(.pointer none)⟩
def v3b:TyI:=⟨Go.TypeDesc.slice 227,1,24,(.slice none 0 0)⟩
def v3v:TyI:=⟨Go.TypeDesc.slice 135,1,24,(.slice none 0 0)⟩
def v4q:TyI:=⟨Go.TypeDesc.func #[90] #[4] false,1,8,.nilFunc⟩
def v3p:TyI:=⟨Go.TypeDesc.tuple #[38,3],1,0,(.tuple #[(.slice none 0 0),(.int .i64 0)])⟩
def v3e:TyI:=⟨Go.TypeDesc.func #[9] #[4] false,1,8,.nilFunc⟩
def v3d:TyI:=⟨Go.TypeDesc.pointer 215,1,8,(.pointer none)⟩
def v5v:TyI:=⟨Go.TypeDesc.struct #[{ name := "seen",type:=3,offset:=0,embedded:=false,tag := "",pkgPath := "whittler/tree",byteOffset:=0 }],1,8,(.agg #[(.int .i64 0)])⟩
def v2a:TyI:=⟨Go.TypeDesc.pointer 220,1,8,(.pointer none)⟩
def v4r:TyI:=⟨Go.TypeDesc.struct #[{ name := "proc",type:=3,offset:=0,embedded:=false,tag := "",pkgPath := "whittler/run",byteOffset:=0 },{ name := "names",type:=22,offset:=1,embedded:=false,tag := "",pkgPath := "whittler/run",byteOffset:=8 },{ name := "vars",type:=160,offset:=2,embedded:=false,tag := "",pkgPath := "whittler/run",byteOffset:=32 },{ name := "call",type:=3,offset:=3,embedded:=false,tag := "",pkgPath := "whittler/run",byteOffset:=56 }],4,64,(.agg #[(.int .i64 0),(.slice none 0 0),(.slice none 0 0),(.int .i64 0)])⟩
def v4k:TyI:=⟨Go.TypeDesc.tuple #[2,4],1,0,(.tuple #[(.int .i64 0),(.bool false)])⟩
def v4v:TyI:=⟨Go.TypeDesc.array 2 3,2,16,(.agg #[(.int .i64 0),(.int .i64 0)])⟩
def v2p:TyI:=⟨Go.TypeDesc.tuple #[22,4],1,0,(.tuple #[(.slice none 0 0),(.bool false)])⟩
def v4g:TyI:=⟨Go.TypeDesc.map 9 22,1,8,(.map none)⟩
def v5y:TyI:=⟨Go.TypeDesc.pointer 273,1,8,(.pointer none)⟩
def v3k:TyI:=⟨Go.TypeDesc.int (Go.IntKind.u64),1,8,(.int .u64 0)⟩
def v4j:TyI:=⟨Go.TypeDesc.struct #[{ name := "next",type:=47,offset:=0,embedded:=false,tag := "",pkgPath := "whittler/graph",byteOffset:=0 },{ name := "prev",type:=47,offset:=1,embedded:=false,tag := "",pkgPath := "whittler/graph",byteOffset:=24 }],2,48,(.agg #[(.slice none 0 0),(.slice none 0 0)])⟩
def v3h:TyI:=⟨Go.TypeDesc.func #[139,139] #[4] false,1,8,.nilFunc⟩
def v4h:TyI:=⟨Go.TypeDesc.int (Go.IntKind.i64),1,8,(.int .i64 0)⟩
def v2o:TyI:=⟨Go.TypeDesc.tuple #[3,285],1,0,(.tuple #[(.int .i64 0),(.int .i64 0)])⟩
def v4m:TyI:=⟨Go.TypeDesc.int (Go.IntKind.u64),1,8,(.int .u64 0)⟩
def v5u:TyI:=⟨Go.TypeDesc.func #[139,139] #[3] false,1,8,.nilFunc⟩
def v4y:TyI:=⟨Go.TypeDesc.int (Go.IntKind.u64),1,8,(.int .u64 0)⟩
def v4o:TyI:=⟨Go.TypeDesc.pointer 3,1,8,(.pointer none)⟩
def v3z:TyI:=⟨Go.TypeDesc.pointer 318,1,8,(.pointer none)⟩
def tab:Tab:=[(0,ty0),(2,ty2),(3,ty3),(4,ty4),(5,ty5),(9,ty9),(20,v6k),(22,v6q),(23,v6n),(25,v2g),(34,v6l),(36,v3u),(37,v5c),(38,v5o),(40,v3n),(42,v6u),(47,v6c),(54,v5s),(56,v6e),(58,v6b),(60,v6s),(63,v6m),(67,v6v),(70,v6p),(74,v6w),(88,v6h),(90,v5w),(93,v6g),(97,v3q),(101,v5z),(102,v2m),(112,v3a),(117,v2r),(126,w7j),(128,v4i),(133,v3t),(135,v2c),(137,v3y),(139,v5x),(151,v3o),(152,v3r),(154,v2i),(158,v2s),(160,v3j),(161,v5q),(163,v4t),(164,v4l),(171,v3b),(174,v3v),(183,v4q),(195,v3p),(211,v3e),(213,v3d),(215,v5v),(218,v2a),(220,v4r),(222,v4k),(227,v4v),(238,v2p),(241,v4g),(244,v5y),(254,v3k),(273,v4j),(281,v3h),(285,v4h),(286,v2o),(295,v4m),(297,v5u),(318,v4y),(322,v4o),(340,v3z)]
theorem QV:TabOK Tryz.prog tab:=by
 repeat refine TabOK.cons (by kernel_rfl) (by kernel_rfl) ?_
 exact TabOK.nil _
theorem mixed:Tryz.prog.follows .mixedOrders=true:=by kernel_rfl
def QN (t:List (Nat×List Nat)) (i:Nat):List Nat :=
 match t with
 | []=>[]
 | (j,l)::r=>bif beq j i then l else QN r i
def QW (t:List (Nat×List (List Nat))) (i:Nat):List (List Nat) :=
 match t with
 | []=>[]
 | (j,l)::r=>bif beq j i then l else QW r i
def QZ (t:List (Nat×Sched)) (i:Nat):Sched :=
 match t with
 | [] => .nil
 | (j,l)::r=>bif beq j i then l else QZ r i
@[reducible] def sT (i:Nat) (r:Sched):Sched := .cons i true r
@[reducible] def sF (i:Nat) (r:Sched):Sched := .cons i false r
def GP:Info:=⟨QN [(24,[8]),(23,[13,86,87,88]),(22,[8]),(21,[13,86,87,88,99]),(20,[13,17,86,87,88]),(19,[13,86,87,88,89]),(18,[13,86,87,88]),(17,[9,10,12,13,67,68,69]),(16,[9,10,12,13,67,68,69]),(15,[9,10,12,13,15,67,68,69]),(14,[9,10,12,13,67,68,69,70]),(13,[9,10,12,13,67,68,69]),(12,[9,10,12,13]),(11,[9,10,12]),(10,[8]),(9,[3,9,10,58]),(8,[3,9,10]),(7,[1,2,3,9]),(6,[8]),(5,[1,2,3,4,38]),(4,[8]),(3,[1,2,3,4,22]),(2,[8]),(1,[1,2,3,4,19]),(0,[1,2,3,4])],QZ [(8,(sF 0 (sF 1 (sF 2 (sF 3 (.fork 4 (.fork 5 (sF 6 (sF 7 (sF 8 (sT 9 (sT 10 (sT 11 .nil)))))) 9 (sT 5 (sT 6 (sT 7 (sF 8 (sT 10 (sT 11 .nil))))))) 9 (sT 4 (sT 5 (sT 6 (sT 7 (sF 8 (sT 10 (sT 11 .nil))))))))))))),(18,(sT 0 (sT 1 (sT 2 (sT 3 (sT 4 (sT 5 (sT 6 (sF 9 (sT 7 (sT 8 .nil)))))))))))],QW [(0,[[4]]),(7,[[9]]),(8,[[10]]),(15,[[15]])]⟩
def BE:Info:=⟨QN [(12,[2]),(4,[1,3,4]),(11,[1,3,4]),(9,[1,3,4,5,6]),(10,[1,3,4,5,6]),(8,[1,3,4,5,6,44]),(7,[1,3,4,5,6]),(6,[1,3,4,5]),(5,[1,3,4,5]),(3,[1,3,4,18]),(2,[1,3,4]),(1,[1,3]),(0,[1])],QZ [(6,(sT 4 (sT 5 (sT 6 (sF 0 (sF 1 (sF 2 (sF 3 (sT 7 (sT 8 (sT 9 (sT 10 .nil))))))))))))],QW [(0,[[1]]),(5,[[5]])]⟩
def x7z:Info:=⟨QN [(1,[2]),(0,[1])],QZ [],QW [(0,[[1]])]⟩
def x3i:Info:=⟨QN [(7,[2]),(6,[3,7,8,9]),(5,[3,7,8,9]),(4,[3,5,7,8,9]),(3,[3,7,8,9,10]),(2,[3,7,8,9]),(1,[1,3]),(0,[1])],QZ [],QW [(0,[[1]]),(4,[[5]])]⟩
def BH:Info:=⟨QN [(11,[4]),(10,[1,4,5,14,15,16]),(9,[1,4,5,14,15,16]),(8,[1,4,5,7,14,15,16]),(7,[1,4,5,7,14,15,16,29]),(6,[1,4,5,7,14,15,16]),(5,[1,4,5,7,14,15,16,22]),(4,[1,4,5,7,14,15,16]),(3,[1,4,5,14,15,16,17]),(2,[1,4,5,14,15,16]),(1,[1,2,4,5]),(0,[1,2,4])],QZ [],QW [(0,[[2]])]⟩
def NM:Info:=⟨QN [(9,[2]),(8,[3,7,8,9]),(7,[2]),(6,[3,7,8,9,19]),(5,[3,7,8,9]),(4,[3,5,7,8,9]),(3,[3,7,8,9,10]),(2,[3,7,8,9]),(1,[1,3]),(0,[1])],QZ [],QW [(0,[[1]]),(4,[[5]])]⟩
def NJ:Info:=⟨QN [(9,[4]),(8,[3,4,5,14,15,16]),(7,[3,4,5,14,15,16]),(6,[3,4,5,8,14,15,16]),(5,[3,4,5,7,8,14,15,16]),(4,[3,4,5,7,14,15,16]),(3,[3,4,5,14,15,16,17]),(2,[3,4,5,14,15,16]),(1,[2,3,4,5]),(0,[2,3,4])],QZ [(5,(sF 0 (sF 1 (sF 2 (sF 3 (sF 5 (sF 6 (sF 8 (sF 9 (sF 10 (.fork 4 (.fork 7 (.fork 11 (sF 12 (sT 13 (sT 14 .nil))) 13 (sT 11 (sT 12 (sT 14 .nil)))) 13 (sT 7 (sT 11 (sT 12 (sT 14 .nil))))) 13 (sT 4 (sT 7 (sT 11 (sT 12 (sT 14 .nil))))))))))))))))],QW [(0,[[2],[3]]),(4,[[7]])]⟩
def NX:Info:=⟨QN [(6,[4]),(5,[4]),(4,[0,1,11]),(3,[0,1]),(2,[4]),(1,[0,1,6]),(0,[0,1])],QZ [],QW []⟩
def PZ:Info:=⟨QN [(1,[2]),(0,[1])],QZ [],QW [(0,[[1]])]⟩
def NT:Info:=⟨QN [(8,[4]),(7,[1,5,9,10,11]),(6,[1,5,9,10,11]),(5,[1,5,7,9,10,11,23]),(4,[1,5,7,9,10,11]),(3,[1,5,9,10,11,12]),(2,[1,5,9,10,11]),(1,[1,2,5]),(0,[1,2])],QZ [],QW [(0,[[2]]),(4,[[7]])]⟩
def BJ:Info:=⟨QN [(1,[4]),(0,[0,1])],QZ [],QW []⟩
def I_run_Of:Info:=⟨QN [(27,[8,9]),(26,[8,10,126]),(25,[8,10]),(24,[8,10,12,117]),(20,[8,10,12]),(23,[8,10,12,111]),(22,[8,10,12]),(18,[8,10,12]),(21,[8,10,11,12,100]),(19,[8,10,11,12,90,94]),(17,[8,10,11,12,90]),(16,[8,10,11,12]),(15,[8,10,11,12,13]),(14,[8,10,11,12,13]),(13,[8,10,11,12,13,63]),(12,[2,8,10,11,12,13]),(11,[2,8,10,11,12,13,56]),(10,[2,8,10,11,12,13]),(9,[2,8,10,11,12]),(8,[2,8,10,11]),(7,[2,8,10,34,35]),(6,[2,8,10,34,35]),(5,[2,8,10,34,35,36]),(4,[2,8,10,34,35]),(3,[2,4,8,10]),(2,[8,9]),(1,[1,2,3,4,8,24]),(0,[1,2,3,4,8])],QZ [],QW [(0,[[4]])]⟩
def JQ:Info:=⟨QN [(4,[0]),(3,[1,2,3,4]),(2,[1,2]),(1,[1]),(0,[])],QZ [],QW [(1,[[1]])]⟩
def FQ:Info:=⟨QN [(1,[4]),(0,[1,2])],QZ [],QW [(0,[[2]])]⟩
def w3v:Info:=⟨QN [(4,[6]),(3,[6]),(2,[2,7,18]),(1,[2,7]),(0,[1,2,3])],QZ [],QW [(0,[[3]])]⟩
def BL:Info:=⟨QN [(3,[0]),(2,[0,1,2]),(1,[0,1]),(0,[0])],QZ [],QW [(1,[[1]]),(2,[[2]])]⟩
def JY:Info:=⟨QN [(5,[4]),(3,[0,1,5]),(4,[0,1,5]),(2,[0,1,5,13]),(1,[0,1,5]),(0,[0,1])],QZ [],QW []⟩
def JO:Info:=⟨QN [(3,[4]),(2,[4]),(1,[0,1,13]),(0,[0,1])],QZ [],QW []⟩
def JV:Info:=⟨QN [(11,[4]),(3,[0,1,5]),(10,[0,1,5]),(8,[0,1,5,6,7]),(9,[0,1,5,6,7]),(7,[0,1,5,6,7,43]),(6,[0,1,5,6,7]),(5,[0,1,5,6]),(4,[0,1,5,6]),(2,[0,1,5,15]),(1,[0,1,5]),(0,[0,1])],QZ [(5,(sT 6 (sT 7 (sT 8 (sF 0 (sF 1 (sF 2 (sF 3 (sF 4 (sF 5 (sT 9 (sT 10 (sT 11 (sT 12 (sT 13 .nil))))))))))))))),(9,(sT 6 (sT 7 (sT 8 (sT 9 (sT 10 (sT 11 (sT 12 (sF 0 (sF 1 (sF 2 (sF 3 (sF 4 (sF 5 (sT 13 (sT 14 (sT 15 .nil))))))))))))))))),(10,(sT 2 (sT 3 (sT 4 (sF 0 (sF 1 (sT 5 (sT 6 (sT 7 .nil)))))))))],QW [(4,[[6]])]⟩
def x6n:Info:=⟨QN [(10,[2]),(9,[2,3]),(8,[1,2,3,22]),(7,[1,2,3]),(6,[1,2,3,17]),(5,[1,2,3]),(4,[1,2,3,12]),(3,[1,2,3]),(2,[2]),(1,[1,2,6]),(0,[1,2])],QZ [],QW [(0,[[1]])]⟩
def x2m:Info:=⟨QN [(7,[2]),(6,[0,3,8,9]),(5,[0,3,8,9]),(4,[0,3,4,8,9]),(3,[0,3,8,9,10]),(2,[0,3,8,9]),(1,[0,3]),(0,[0])],QZ [(5,(sT 1 (sT 2 (sT 3 (sT 4 (sT 5 (sF 0 (sF 7 (sF 8 (sF 9 (sF 10 (sF 11 (sT 6 (sT 12 (sT 13 (sT 14 (sT 15 .nil)))))))))))))))))],QW []⟩
def LZ:Info:=⟨QN [(1,[4]),(0,[0,3])],QZ [],QW [(0,[[3]])]⟩
def DK:Info:=⟨QN [(2,[2]),(1,[0,3]),(0,[0])],QZ [],QW []⟩
def PQ:Info:=⟨QN [(1,[2]),(0,[1,2])],QZ [],QW [(0,[[1]])]⟩
def PV:Info:=⟨QN [(13,[4]),(12,[1,5,9,10,11]),(11,[1,5,9,10,11]),(10,[1,5,8,9,10,11]),(9,[1,5,7,8,9,10,11]),(8,[1,5,7,8,9,10,11,35]),(7,[1,5,7,8,9,10,11]),(6,[1,5,7,8,9,10,11,28]),(5,[1,5,7,8,9,10,11]),(4,[1,5,7,9,10,11]),(3,[1,5,9,10,11,12]),(2,[1,5,9,10,11]),(1,[0,1,5]),(0,[0,1])],QZ [(7,(sF 1 (sF 2 (sT 0 (sT 3 (sT 4 (sT 5 .nil))))))),(10,(sT 0 (sT 1 (sT 2 (sF 4 (sF 5 (sF 6 (sT 3 (sF 8 (sT 7 (sT 9 (sT 10 (sT 11 .nil)))))))))))))],QW [(4,[[7]])]⟩
def GI:Info:=⟨QN [(8,[2]),(7,[1,2,3,4,10,11]),(6,[1,2,3,4,10,11]),(5,[1,2,3,4,5,10,11]),(4,[1,2,3,4,10,11,12]),(3,[1,2,3,4,10,11]),(2,[1,2,3,4]),(1,[1,2,3]),(0,[1,2])],QZ [(6,(sT 3 (sT 4 (sT 5 (sT 6 (sT 7 (sT 8 (sT 9 (sF 0 (sF 1 (sF 2 (sT 10 (sT 11 (sT 12 (sT 14 (sT 15 (sF 13 (sT 16 (sT 17 .nil)))))))))))))))))))],QW [(0,[[1]]),(1,[[3]])]⟩
def w1d:Info:=⟨QN [(6,[4]),(5,[4]),(4,[1,5,14]),(3,[1,5]),(2,[4]),(1,[1,2,8]),(0,[1,2])],QZ [],QW [(0,[[2]])]⟩
def q3j:Info:=⟨QN [(6,[4]),(3,[4]),(5,[4]),(4,[0,1,8]),(2,[0,1,5,6]),(1,[0,1,5]),(0,[0,1])],QZ [(6,(sT 0 (sT 1 (sT 2 (sT 3 (sT 4 (sT 5 (sT 6 (sT 7 (sT 8 (sT 9 (sT 10 (sT 11 (sT 12 (sT 13 (sT 14 (sT 15 (sT 16 .nil))))))))))))))))))],QW []⟩
def PA:Info:=⟨QN [(11,[4]),(10,[3,5,9,10,11]),(9,[3,5,9,10,11]),(8,[3,5,8,9,10,11]),(7,[3,5,7,8,9,10,11]),(6,[3,5,7,8,9,10,11,21]),(5,[3,5,7,8,9,10,11]),(4,[3,5,7,9,10,11]),(3,[3,5,9,10,11,12]),(2,[3,5,9,10,11]),(1,[0,3,5]),(0,[0,3])],QZ [(8,(sT 0 (sT 1 (sT 2 (sF 4 (sF 5 (sF 6 (sT 3 (sF 8 (sT 7 (sT 9 (sT 10 (sT 11 .nil)))))))))))))],QW [(0,[[3]]),(4,[[7]])]⟩
def BX:Info:=⟨QN [(7,[4]),(6,[1,7,8,9]),(5,[4]),(4,[1,7,8,9,15]),(3,[1,6,7,8,9]),(2,[1,7,8,9,10]),(1,[1,7,8,9]),(0,[0,1])],QZ [],QW []⟩
def z4i:Info:=⟨QN [(18,[2]),(17,[3,27,28,29]),(16,[2]),(15,[3,27,28,29,77]),(14,[3,5,27,28,29,62,63,64]),(13,[2]),(12,[3,5,27,28,29,62,63,64,71]),(11,[3,5,7,27,28,29,62,63,64]),(10,[3,5,27,28,29,62,63,64,65]),(9,[3,5,27,28,29,62,63,64]),(8,[2]),(7,[3,5,27,28,29,60]),(6,[3,5,27,28,29]),(5,[3,27,28,29,30]),(4,[3,27,28,29]),(3,[1,3]),(2,[2]),(1,[1,23]),(0,[1])],QZ [],QW [(0,[[1]]),(6,[[5]]),(11,[[7]])]⟩
def x5j:Info:=⟨QN [(13,[6]),(12,[6]),(11,[36]),(10,[6]),(9,[2,3,32]),(8,[2,3,4,10,11,12]),(7,[6]),(6,[2,3,4,10,11,12,27]),(5,[6]),(4,[2,3,4,8,10,11,12,23]),(3,[2,3,4,8,10,11,12]),(2,[2,3,4,10,11,12,13]),(1,[2,3,4,10,11,12]),(0,[2,3,4])],QZ [],QW [(0,[[3],[4]]),(3,[[8]])]⟩
def YY:Info:=⟨QN [(8,[10]),(3,[0,1,2,3,4,11]),(7,[0,1,2,3,4,11]),(6,[0,1,2,3,4,11]),(5,[0,1,2,3,4,11,35]),(4,[0,1,2,3,4,11]),(2,[0,1,2,3,4,11,20]),(1,[0,1,2,3,4,11]),(0,[0,1,2,3,4])],QZ [(6,(sT 0 (sT 1 (sT 2 (sT 3 (sT 4 (sT 5 (sT 6 (sT 7 (sT 8 (sT 9 (sT 10 (sT 11 (sT 12 (sT 13 (sT 14 .nil)))))))))))))))),(7,(sT 0 (sT 1 (sT 2 (sT 3 (sT 4 (sT 5 (sT 6 (sT 7 (sT 8 (sT 9 (sT 10 (sT 11 (sT 12 (sT 13 (sT 14 .nil))))))))))))))))],QW []⟩
def z2u:Info:=⟨QN [(9,[2]),(8,[3,10,11,12]),(7,[3,10,11,12]),(6,[3,10,11,12]),(5,[3,4,5,10,11,12]),(4,[3,4,5,10,11,12]),(3,[3,10,11,12,13]),(2,[3,10,11,12]),(1,[1,3]),(0,[1])],QZ [(5,(sT 5 (sT 6 (sT 7 (sT 8 (sT 9 (sT 10 (sF 0 (sF 1 (sF 2 (sF 3 (.fork 4 (sT 11 (sT 12 (sT 13 (sT 14 (sT 15 .nil))))) 11 (sT 4 (sT 12 (sT 13 (sT 14 (sT 15 .nil))))))))))))))))),(7,(sT 5 (sT 6 (sT 7 (sT 8 (sT 9 (sT 10 (sF 0 (sF 1 (sF 2 (sF 3 (.fork 4 (sT 11 (sT 12 (sT 13 (sT 14 (sT 15 .nil))))) 11 (sT 4 (sT 12 (sT 13 (sT 14 (sT 15 .nil)))))))))))))))))],QW [(0,[[1]]),(4,[[5]])]⟩
def ND:Info:=⟨QN [(9,[8]),(8,[0,1]),(7,[0,1,10,52,53]),(6,[0,1,10,52,53]),(5,[0,1,10,52,53,54]),(4,[0,1,10,52,53]),(3,[0,1,9,10]),(2,[0,1,2,9,10]),(1,[0,1,2,3,9]),(0,[0,1,2,3])],QZ [(2,(sT 1 (sT 2 (sT 3 (sT 4 (sT 5 (sT 6 (sT 7 (sT 8 (sT 9 (sF 0 (sF 11 (sT 10 (sT 12 (sT 13 (sT 14 .nil)))))))))))))))),(3,(sT 1 (sT 2 (sT 3 (sT 4 (sT 5 (sT 6 (sT 7 (sT 8 (sF 0 (sF 10 (sT 9 (sT 11 (sT 12 (sT 13 (sT 14 .nil))))))))))))))))],QW [(1,[[9]])]⟩
def I_run_machine_call:Info:=⟨QN [(17,[4]),(16,[0,3,5]),(15,[4]),(14,[]),(13,[0,3,5,46]),(12,[0,3,5,12,13,14]),(11,[0,3,5,12,13,14]),(10,[0,3,5,10,12,13,14]),(9,[4]),(8,[0,3,5,8,12,13,14,35]),(7,[0,3,5,8,9,12,13,14]),(6,[0,3,5,12,13,14]),(5,[0,3,5,7,12,13,14,19]),(4,[0,3,5,7,12,13,14]),(3,[0,3,5,12,13,14,15]),(2,[0,3,5,12,13,14]),(1,[0,3,5]),(0,[0,3])],QZ [(17,(sT 1 (sT 2 (sT 3 (sT 4 (sT 5 (sT 6 (sF 0 (sF 8 (sF 9 (sF 10 (sT 7 (sT 11 (sT 12 .nil))))))))))))))],QW [(0,[[3]]),(4,[[7]]),(10,[[10]])]⟩
def BI:Info:=⟨QN [(7,[4]),(6,[5]),(5,[0,3,5,21]),(4,[0,3,5,6]),(3,[4]),(2,[]),(1,[0,3,9]),(0,[0,3])],QZ [],QW [(0,[[3]])]⟩
def q1b:Info:=⟨QN [(38,[4]),(28,[3]),(30,[3]),(34,[4]),(33,[4]),(32,[3,5,154]),(37,[4]),(36,[3,5,168]),(35,[3,5,9,165]),(31,[3,5,9,128,151]),(29,[0,3,5,9,128,137]),(27,[0,3,5,9,128,129]),(26,[0,3,5,9,128]),(25,[0,3,5,9]),(24,[4]),(23,[0,3,5,9,120]),(22,[0,3,5,9,10]),(5,[4]),(4,[0,3]),(8,[4]),(7,[3]),(12,[4]),(11,[6]),(10,[0,3,5]),(21,[4]),(20,[3]),(19,[0,3,5,8]),(18,[0,3,5,8]),(17,[0,3,5,8]),(16,[4]),(15,[]),(14,[0,3,5,73]),(13,[0,3,5,61]),(9,[0,3,5,14,42]),(6,[0,3,5,14,34]),(3,[0,3,5,14,15]),(2,[0,3,5,14]),(1,[0,3,5]),(0,[0,3])],QZ [(5,(sT 0 (sT 1 (sT 2 (sT 3 (sT 4 (sT 5 (sT 6 (sT 7 (sT 8 (sT 9 (sT 10 (sT 11 (sT 12 (sT 13 .nil))))))))))))))),(11,(sT 0 (sT 1 (sT 2 (sT 3 (sT 4 (sT 5 (sT 6 (sT 7 (sT 8 (sT 9 (sT 10 (sT 11 (sT 12 (sT 13 .nil))))))))))))))),(14,(sT 0 (sT 1 (sT 2 (sT 3 (sT 4 (sT 5 (sT 6 (sT 7 (sT 8 (sT 9 (sT 10 .nil)))))))))))),(17,(sT 0 (sT 1 (sT 2 (sT 3 (sT 4 (sT 5 (sT 6 (sT 7 (sT 8 (sT 9 (sT 10 (sT 11 .nil)))))))))))))],QW [(0,[[3]]),(1,[[5]])]⟩
def BM:Info:=⟨QN [(9,[4]),(8,[6]),(7,[0,1,6,46]),(6,[0,1,6]),(5,[4]),(4,[]),(3,[0,1,5,27]),(2,[0,1,5]),(1,[0,1,5]),(0,[0,1])],QZ [(2,(sT 0 (sT 1 (sT 2 (sT 3 (sT 4 (sT 5 (sT 6 (sT 7 (sT 8 (sT 9 (sT 10 (sT 11 (sT 12 (sT 13 (sT 14 .nil))))))))))))))))],QW [(6,[[6]])]⟩
def z3t:Info:=⟨QN [(4,[6,7]),(3,[6,7]),(2,[8,15]),(1,[8]),(0,[1,2,3])],QZ [],QW [(0,[[3]])]⟩
def z4v:Info:=⟨QN [(10,[4]),(8,[5,6,7,8]),(9,[5,6,7,8]),(7,[5,6,7,8,22]),(6,[5,6,7,8]),(5,[5,6,7]),(4,[5,6]),(3,[4]),(2,[5,13]),(1,[5]),(0,[1,2])],QZ [],QW [(0,[[2]])]⟩
def HU:Info:=⟨QN [(7,[4]),(2,[4]),(4,[4]),(6,[4]),(5,[0,1,16]),(3,[0,1,8]),(1,[0,1,5]),(0,[0,1])],QZ [(5,(sT 0 (sT 1 (sT 2 (sT 3 (sT 4 (sT 5 (sT 6 (sT 7 (sT 8 (sT 9 (sT 10 (sT 11 (sT 12 (sT 13 (sT 14 (sT 15 (sT 16 (sT 17 (sT 18 (sT 19 (sT 20 (sT 21 (sT 22 (sT 23 (sT 24 (sT 25 (sT 26 (sT 27 (sT 28 (sT 29 (sT 30 (sT 31 (sT 32 .nil)))))))))))))))))))))))))))))))))),(6,(sT 0 (sT 1 (sT 2 (sT 3 (sT 4 (sT 5 (sT 6 (sT 7 (sT 8 (sT 9 (sT 10 (sT 11 (sT 12 (sT 13 (sT 14 (sT 15 (sT 16 .nil))))))))))))))))))],QW []⟩
def q9n:Info:=⟨QN [(16,[6]),(15,[0,7,45,46,47]),(14,[0,7,45,46,47]),(13,[0,7,11,12,45,46,47]),(12,[0,7,45,46,47,48]),(11,[0,7,45,46,47]),(10,[0,7]),(9,[0,1,7,8,21,22,23]),(8,[0,1,7,8,21,22,23]),(7,[0,1,7,8,9,21,22,23]),(6,[0,1,7,8,9,21,22,23,28]),(5,[0,1,7,8,9,10,21,22,23]),(4,[0,1,7,8,21,22,23,24]),(3,[0,1,7,8,21,22,23]),(2,[0,1,2,7,8]),(1,[0,1,2,7]),(0,[0,1,2])],QZ [(8,(sT 2 (sT 3 (sT 4 (sT 5 (sF 0 (sF 1 (sT 6 (sT 7 (sT 8 .nil))))))))))],QW [(2,[[8]])]⟩
def q1h:Info:=⟨QN [(28,[2]),(23,[0,3,6,9,10]),(27,[0,3,6,9,10]),(26,[0,3,6,9,10,11,111]),(25,[0,3,6,9,10,11]),(24,[0,3,6,9,10,11]),(22,[0,3,6,9,10,93]),(21,[0,3,6,9,10]),(20,[0,3,6,9]),(19,[0,3,6,86]),(18,[0,3,6,9]),(17,[0,3,6,46,47]),(16,[0,3,6,7,46,47,62,63]),(15,[0,3,6,7,46,47,62,63]),(14,[0,3,6,7,8,46,47,62,63]),(13,[0,3,6,7,46,47,62,63,64]),(12,[0,3,6,7,46,47,62,63]),(11,[0,3,6,7,46,47]),(10,[0,3,6,7,46,47]),(9,[0,3,6,46,47,48]),(8,[0,3,6,46,47]),(7,[0,3,6]),(6,[0,3,20,21,22]),(5,[0,3,20,21,22]),(4,[0,3,5,20,21,22]),(3,[0,3,20,21,22,23]),(2,[0,3,20,21,22]),(1,[0,3]),(0,[0])],QZ [(5,(sT 8 (sT 9 (sF 0 (sF 1 (sF 2 (sF 3 (sF 4 (sF 5 (sF 6 (sF 7 (sT 10 (sT 11 (sT 12 (sT 13 .nil))))))))))))))),(15,(sT 0 (sT 1 (sT 2 (sT 3 (sT 4 (sT 5 (sT 6 (sT 7 (sT 8 (sT 9 (sT 10 (sT 11 (sT 12 (sT 13 (sT 14 (sT 15 (sT 16 (sT 17 (sT 18 .nil))))))))))))))))))))],QW [(4,[[5]])]⟩
def PY:Info:=⟨QN [(1,[2]),(0,[0,2])],QZ [],QW []⟩
def BG:Info:=⟨QN [(1,[2]),(0,[0,2])],QZ [],QW []⟩
def NY:Info:=⟨QN [(1,[6]),(0,[0,4,5,6])],QZ [],QW [(0,[[4],[5]])]⟩
def JD:Info:=⟨QN [(6,[4]),(4,[1,2,5]),(5,[1,2,5]),(3,[1,2,5,18]),(2,[1,2,5]),(1,[1,2]),(0,[1,2])],QZ [],QW [(0,[[2]])]⟩
def x2z:Info:=⟨QN [(26,[2]),(25,[1,2,3,7,57,58,59]),(24,[1,2,3,7,9,57,58,59,76,77,78]),(23,[2]),(22,[1,2,3,7,9,12,57,58,59,76,77,78,88]),(21,[1,2,3,7,9,12,57,58,59,76,77,78]),(20,[1,2,3,7,9,57,58,59,76,77,78,79]),(19,[1,2,3,7,9,57,58,59,76,77,78]),(18,[2]),(17,[1,2,3,7,8,9,57,58,59,72]),(16,[1,2,3,7,8,9,10,57,58,59]),(15,[1,2,3,7,8,9,57,58,59]),(14,[1,2,3,7,57,58,59,60]),(13,[1,2,3,7,57,58,59]),(12,[1,2,3,7]),(11,[2]),(10,[1,2,3,52]),(9,[1,2,3,6]),(8,[1,2,3,18,19,20]),(7,[1,2,3,18,19,20]),(6,[1,2,3,5,18,19,20]),(5,[1,2,3,18,19,20,21]),(4,[1,2,3,18,19,20]),(3,[1,2,3]),(2,[2]),(1,[1,2,15]),(0,[1,2])],QZ [],QW [(0,[[1]]),(6,[[5]]),(15,[[9]]),(21,[[12]])]⟩
def q9r:Info:=⟨QN [(9,[2]),(8,[1,2,14,15,16]),(7,[2]),(6,[1,2,4,14,15,16,30]),(5,[1,2,4,14,15,16]),(4,[1,2,14,15,16,17]),(3,[1,2,14,15,16]),(2,[2]),(1,[1,2,8]),(0,[1,2])],QZ [],QW [(0,[[1]]),(5,[[4]])]⟩
def x4o:Info:=⟨QN [(20,[2]),(19,[2,3,16,17,18]),(18,[2]),(17,[2,3,16,17,18,60]),(16,[2,3,7,16,17,18]),(15,[2,3,5,6,16,17,18,25,26,27]),(14,[2]),(13,[2,3,5,6,9,16,17,18,25,26,27,46]),(12,[2,3,5,6,7,9,16,17,18,25,26,27]),(11,[2,3,5,6,9,16,17,18,25,26,27]),(10,[2,3,5,6,16,17,18,25,26,27,28]),(9,[2,3,5,6,16,17,18,25,26,27]),(8,[2,3,4,5,6,16,17,18]),(7,[2,3,4,5,6,16,17,18]),(6,[2,3,4,5,16,17,18]),(5,[2,3,16,17,18,19]),(4,[2,3,16,17,18]),(3,[2]),(2,[1,2,3,13]),(1,[1,2,3]),(0,[1,2])],QZ [],QW [(0,[[1]]),(6,[[5]]),(11,[[9]])]⟩
def q9k:Info:=⟨QN [(15,[2]),(14,[2,3,33,34,35]),(13,[2]),(12,[2,3,7,33,34,35,53]),(11,[2,3,7,33,34,35]),(10,[2,3,33,34,35,36]),(9,[2,3,33,34,35]),(8,[1,2,3,15,16,17]),(7,[1,2,3,15,16,17]),(6,[1,2,3,5,15,16,17]),(5,[1,2,3,15,16,17,18]),(4,[1,2,3,15,16,17]),(3,[1,2,3]),(2,[2]),(1,[1,2,11]),(0,[1,2])],QZ [(7,(sT 3 (sT 4 (sT 5 (sF 0 (sF 1 (sF 2 (sT 6 (sT 7 .nil)))))))))],QW [(0,[[1]]),(6,[[5]]),(11,[[7]])]⟩
def z8u:Info:=⟨QN [(8,[4]),(7,[5,46,47,48]),(6,[5,46,47,48]),(5,[5,7,46,47,48]),(4,[5,46,47,48,49]),(3,[5,46,47,48]),(2,[5]),(1,[5]),(0,[0,1])],QZ [(1,(sT 18 (sT 19 (sF 0 (sF 1 (sF 2 (sF 3 (sF 4 (sF 5 (sF 6 (sF 7 (sF 8 (sF 9 (sF 10 (sF 11 (sF 12 (sF 13 (sF 14 (sF 15 (sF 16 (sF 17 (sT 20 (sT 21 (sT 22 (sT 23 .nil)))))))))))))))))))))))))],QW []⟩
def WV:Info:=⟨QN [(7,[4]),(6,[0,1,7,8]),(5,[4]),(4,[0,1,5,7,8,16]),(3,[0,1,5,7,8]),(2,[0,1,7,8,9]),(1,[0,1,7,8]),(0,[0,1])],QZ [],QW []⟩
def DS:Info:=⟨QN [(1,[3]),(0,[1,2])],QZ [],QW [(0,[[2]])]⟩
def PE:Info:=⟨QN [(3,[4]),(2,[4]),(1,[0,1,19]),(0,[0,1])],QZ [(1,(sT 0 (sT 1 (sT 2 (sT 3 (sT 4 (sT 5 (sT 6 (sT 7 (sT 8 (sT 9 (sT 10 (sT 11 (sT 12 (sT 13 (sT 14 .nil))))))))))))))))],QW []⟩
def VJ:Info:=⟨QN [(1,[4]),(0,[0,1])],QZ [],QW []⟩
def GM:Info:=⟨QN [(7,[2]),(6,[2,3,24,25,26]),(5,[2,3,24,25,26]),(4,[2,3,5,24,25,26]),(3,[2,3,24,25,26,27]),(2,[2,3,24,25,26]),(1,[1,2,3]),(0,[1,2])],QZ [(1,(sF 0 (sF 1 (sF 2 (sF 3 (sF 4 (sF 5 (sF 7 (sF 8 (sF 9 (sF 10 (sF 11 (sF 12 (sF 14 (sF 15 (.fork 6 (.fork 13 (sF 16 (sT 17 (sT 18 .nil))) 17 (sT 13 (sT 16 (sT 18 .nil)))) 17 (sT 6 (sT 13 (sT 16 (sT 18 .nil)))))))))))))))))))),(5,(sT 6 (sT 7 (sF 0 (sF 2 (sF 3 (sF 4 (sF 5 (.fork 1 (sT 8 (sT 9 (sT 10 (sT 11 (sT 12 (sT 13 .nil)))))) 8 (sT 9 (.fork 1 (sT 10 (sT 11 (sT 12 (sT 13 .nil)))) 10 (sT 1 (sT 11 (sT 12 (sT 13 .nil)))))))))))))))],QW [(0,[[1]]),(4,[[5]])]⟩
def GW:Info:=⟨QN [(12,[4,5]),(11,[1,6,10,11,12]),(10,[1,6,10,11,12]),(9,[1,6,9,10,11,12]),(8,[1,6,8,9,10,11,12]),(7,[1,6,8,9,10,11,12]),(6,[1,6,8,9,10,11,12]),(5,[1,6,8,10,11,12]),(4,[1,6,8,10,11,12]),(3,[1,6,10,11,12,13]),(2,[1,6,10,11,12]),(1,[0,1,6]),(0,[0,1])],QZ [],QW [(4,[[8]])]⟩
def HR:Info:=⟨QN [(7,[4]),(6,[0,5,8,9,10]),(5,[0,5,8,9,10]),(4,[0,5,7,8,9,10]),(3,[0,5,8,9,10,11]),(2,[0,5,8,9,10]),(1,[0,1,5]),(0,[0,1])],QZ [(5,(sT 1 (sT 2 (sT 3 (sF 0 (sF 5 (sF 6 (sF 7 (sT 4 (sT 8 (sT 9 (sT 10 (sT 11 (sT 12 .nil))))))))))))))],QW [(4,[[7]])]⟩
def q9v:Info:=⟨QN [(8,[2]),(7,[3,6,7,8]),(6,[2]),(5,[3,5,6,7,8,14]),(4,[3,5,6,7,8]),(3,[3,6,7,8,9]),(2,[3,6,7,8]),(1,[0,3]),(0,[0])],QZ [],QW []⟩
def NG:Info:=⟨QN [(13,[4]),(12,[4]),(11,[19]),(10,[4]),(9,[0,1,16]),(8,[4]),(7,[0,1,13]),(6,[4]),(5,[4]),(4,[12]),(3,[0,1,6,11]),(2,[0,1,5,6]),(1,[0,1,5]),(0,[0,1])],QZ [],QW []⟩
def x7v:Info:=⟨QN [(3,[2]),(2,[2]),(1,[0,4]),(0,[0])],QZ [],QW []⟩
def x5d:Info:=⟨QN [(7,[2]),(6,[5,6,7]),(5,[2]),(4,[5,6,7,13]),(3,[4,5,6,7]),(2,[5,6,7,8]),(1,[5,6,7]),(0,[0])],QZ [],QW []⟩
def z4s:Info:=⟨QN [(3,[2]),(2,[2]),(1,[0,16]),(0,[0])],QZ [],QW []⟩
def YD:Info:=⟨QN [(12,[6]),(11,[0,2,16,17,18]),(10,[6]),(9,[0,2,16,17,18,69]),(8,[6]),(7,[0,2,8,16,17,18,53]),(6,[0,2,8,16,17,18]),(5,[0,2,8,16,17,18]),(4,[0,2,16,17,18,19]),(3,[0,2,16,17,18]),(2,[6]),(1,[0,1,2,15]),(0,[0,1,2])],QZ [(7,(sT 0 (sT 1 (sT 2 (sT 3 (sT 4 (sT 5 (sT 6 (sT 7 (sT 8 (sT 9 (sT 10 (sT 11 (sT 12 (sT 13 (sT 14 (sT 15 (sT 16 (sT 17 (sT 18 (sT 19 (sT 20 (sT 21 (sT 22 (sT 23 (sT 24 .nil))))))))))))))))))))))))))],QW [(5,[[8]])]⟩
def q1p:Info:=⟨QN [(15,[0,1,5,11,12,13]),(14,[0,1,5,11,12,13]),(13,[0,1,5,7,10,11,12,13]),(12,[0,1,5,7,10,11,12,13]),(11,[0,1,5,7,8,10,11,12,13,57]),(10,[0,1,5,7,8,10,11,12,13]),(9,[0,1,5,7,8,9,11,12,13]),(8,[0,1,5,7,8,9,11,12,13]),(7,[0,1,5,7,8,9,11,12,13,31]),(6,[0,1,5,6,7,8,9,11,12,13]),(5,[0,1,5,6,7,8,9,11,12,13]),(4,[0,1,5,6,7,8,11,12,13]),(3,[0,1,5,6,7,11,12,13]),(2,[0,1,5,11,12,13,14]),(1,[0,1,5,11,12,13]),(0,[0,1,5])],QZ [(9,(sT 5 (sF 0 (sF 1 (sF 2 (sF 3 (.fork 4 (sT 6 (sT 7 (sT 8 (sT 9 (sT 10 .nil))))) 6 (sT 4 (sT 7 (sT 8 (sT 9 (sT 10 .nil))))))))))))],QW [(0,[[5]]),(3,[[7]])]⟩
def x4c:Info:=⟨QN [(9,[4]),(8,[1,2,11,12,13]),(7,[4]),(6,[1,2,6,11,12,13,20]),(5,[1,2,6,11,12,13]),(4,[1,2,11,12,13,14]),(3,[1,2,11,12,13]),(2,[4]),(1,[1,2,9]),(0,[1,2])],QZ [(7,(sT 0 (sT 1 (sF 3 (sT 2 (sT 4 (sT 5 (sT 6 .nil))))))))],QW [(0,[[2]]),(5,[[6]])]⟩
def BR:Info:=⟨QN [(2,[4]),(1,[1,5]),(0,[0,1])],QZ [(2,(sT 4 (sT 5 (sT 6 (sT 7 (sT 8 (sF 0 (sF 1 (sF 2 (sF 3 (sT 9 (sT 10 (sT 11 (sT 12 .nil))))))))))))))],QW []⟩
def PX:Info:=⟨QN [(11,[4,5]),(10,[9,10]),(9,[0,9,10,57]),(8,[0,9,10]),(7,[0,3,6,24,25,26]),(6,[0,3,6,24,25,26]),(5,[0,3,6,8,24,25,26]),(4,[0,3,6,24,25,26,27]),(3,[0,3,6,24,25,26]),(2,[0,3,6]),(1,[0,3,6]),(0,[0,3])],QZ [(6,(sT 5 (sT 6 (sT 7 (sF 0 (sF 1 (sF 2 (sF 3 (.fork 4 (sT 8 (sT 9 (sT 10 (sT 11 (sT 12 .nil))))) 8 (sT 4 (sT 9 (sT 10 (sT 11 (sT 12 .nil)))))))))))))),(8,(sT 0 (sT 1 (sT 2 (sT 3 (sT 4 (sT 5 (sT 6 (sT 7 (sT 8 (sT 9 (sT 10 (sT 11 (sT 12 (sT 13 (sT 14 .nil))))))))))))))))],QW [(0,[[3]])]⟩
def BZ:Info:=⟨QN [(1,[]),(0,[0,1,2,11])],QZ [],QW []⟩
def q5v:Info:=⟨QN [(9,[6,7]),(8,[6,7]),(7,[37]),(6,[0,1,2,12,13,14]),(5,[6,7]),(4,[0,1,2,9,12,13,14,22]),(3,[0,1,2,9,12,13,14]),(2,[0,1,2,12,13,14,15]),(1,[0,1,2,12,13,14]),(0,[0,1,2])],QZ [],QW [(3,[[9]])]⟩
def x7l:Info:=⟨QN [(3,[4]),(2,[4]),(1,[0,1,7]),(0,[0,1])],QZ [],QW []⟩
def LD:Info:=⟨QN [(1,[2]),(0,[0])],QZ [(1,(sT 0 (sT 1 (sT 2 (sT 3 (sT 4 (sT 5 (sT 6 (sT 7 (sT 8 (sT 9 (sT 10 (sT 11 (sT 12 .nil))))))))))))))],QW []⟩
def z2s:Info:=⟨QN [(8,[2]),(7,[3,6,7,8]),(6,[3,6,7,8]),(5,[3,6,7,8,12]),(4,[3,5,6,7,8]),(3,[3,6,7,8,9]),(2,[3,6,7,8]),(1,[0,3]),(0,[0])],QZ [],QW []⟩
def VK:Info:=⟨QN [(0,[])],QZ [],QW []⟩
def q5c:Info:=⟨QN [(1,[5]),(0,[0,1,2])],QZ [(1,(sT 0 (sT 1 (sT 2 (sT 3 (sT 4 (sT 5 (sT 6 (sT 7 (sT 8 (sT 9 .nil)))))))))))],QW []⟩
def q9e:Info:=⟨QN [(13,[2]),(12,[3,25,26,27]),(11,[3,25,26,27]),(10,[3,5,25,26,27,34]),(9,[3,5,25,26,27,33,34]),(8,[3,5,25,26,27,33,34]),(7,[3,5,25,26,27,33,34]),(6,[3,5,25,26,27,33]),(5,[3,5,25,26,27]),(4,[3,25,26,27,28]),(3,[3,25,26,27]),(2,[0,3]),(1,[0,3]),(0,[0])],QZ [(1,(sT 0 (sF 2 (sF 3 (sF 4 (sF 5 (sT 1 (sT 6 (sT 7 .nil))))))))),(3,(sT 0 (sT 1 (sT 2 (sT 3 (sT 4 (sT 5 (sT 6 (sT 7 (sF 10 (sT 8 (sT 9 .nil))))))))))))],QW [(5,[[5]])]⟩
def x3t:Info:=⟨QN [(12,[4]),(11,[0,1,5,13,14]),(10,[0,1,5,6,13,14,20,21,22]),(9,[0,1,5,6,13,14,20,21,22]),(8,[0,1,5,6,8,13,14,20,21,22]),(7,[0,1,5,6,13,14,20,21,22,23]),(6,[0,1,5,6,13,14,20,21,22]),(5,[0,1,5,6,13,14]),(4,[0,1,5,6,13,14]),(3,[0,1,5,13,14,15]),(2,[0,1,5,13,14]),(1,[0,1,5]),(0,[0,1])],QZ [],QW []⟩
def YA:Info:=⟨QN [(9,[4]),(8,[0,1,12,13]),(7,[4]),(6,[0,1,12,13,24]),(5,[0,1,5,12,13]),(4,[0,1,12,13,14]),(3,[0,1,12,13]),(2,[4]),(1,[0,1,10]),(0,[0,1])],QZ [(6,(sT 0 (sT 1 (sT 2 (sT 3 (sT 4 (sT 5 (sT 6 (sT 7 (sT 8 .nil))))))))))],QW []⟩
def UK:Info:=⟨QN [(7,[4]),(6,[0,1,7,8]),(5,[4]),(4,[0,1,5,7,8,16]),(3,[0,1,5,7,8]),(2,[0,1,7,8,9]),(1,[0,1,7,8]),(0,[0,1])],QZ [],QW []⟩
def x1l:Info:=⟨QN [(7,[2]),(6,[0,5,6,7]),(5,[2]),(4,[0,5,6,7,16]),(3,[0,3,4,5,6,7]),(2,[0,5,6,7,8]),(1,[0,5,6,7]),(0,[0])],QZ [],QW []⟩
def x8z:Info:=⟨QN [(7,[2]),(6,[1,3,7,8,9]),(5,[1,3,7,8,9]),(4,[1,3,5,7,8,9]),(3,[1,3,7,8,9,10]),(2,[1,3,7,8,9]),(1,[1,3]),(0,[1])],QZ [],QW [(0,[[1]]),(4,[[5]])]⟩
def WJ:Info:=⟨QN [(1,[4]),(0,[0,1])],QZ [],QW []⟩
def q4k:Info:=⟨QN [(1,[3]),(0,[0,1])],QZ [],QW []⟩
def q3m:Info:=⟨QN [(1,[4]),(0,[0,1])],QZ [(1,(sT 0 (sT 1 (sT 2 (sT 3 (sT 4 (sT 5 (sT 6 (sT 7 (sT 8 (sT 9 (sT 10 (sT 11 (sT 12 (sT 13 (sT 14 (sT 15 (sT 16 (sT 17 (sT 18 (sT 19 (sT 20 (sT 21 .nil)))))))))))))))))))))))],QW []⟩
def x0p:Info:=⟨QN [(7,[8]),(6,[2,4,5,7,12,13,14]),(5,[8]),(4,[2,4,5,7,12,13,14,22]),(3,[2,4,5,7,10,12,13,14]),(2,[2,4,5,7,12,13,14,15]),(1,[2,4,5,7,12,13,14]),(0,[2,4,5,7])],QZ [],QW [(0,[[4],[5],[7]])]⟩
def x3n:Info:=⟨QN [(9,[4]),(8,[3,11,12,13]),(7,[4]),(6,[3,6,11,12,13,21]),(5,[3,6,11,12,13]),(4,[3,11,12,13,14]),(3,[3,11,12,13]),(2,[4]),(1,[2,3,9]),(0,[2,3])],QZ [],QW [(0,[[2],[3]]),(5,[[6]])]⟩
def q0i:Info:=⟨QN [(3,[2]),(2,[2]),(1,[1,6]),(0,[1])],QZ [],QW [(0,[[1]])]⟩
def x7k:Info:=⟨QN [(8,[4,5]),(7,[0,8,9,10]),(6,[0,8,9,10]),(5,[4,5]),(4,[0,7,8,9,10,16]),(3,[0,7,8,9,10]),(2,[0,8,9,10,11]),(1,[0,8,9,10]),(0,[0,1])],QZ [],QW []⟩
def x2b:Info:=⟨QN [(8,[4]),(4,[4]),(7,[4]),(6,[6]),(5,[0,3,16]),(3,[0,3,9,10]),(2,[0,3,9,10]),(1,[0,3,9]),(0,[0,3])],QZ [],QW [(0,[[3]])]⟩
def q3e:Info:=⟨QN [(20,[4]),(19,[6]),(18,[2,5,6,21,22,23]),(17,[2,5,6,21,22,23,31,32,33]),(16,[2,5,6,21,22,23,31,32,33,39,40,41]),(15,[2,5,6,21,22,23,31,32,33,39,40,41]),(14,[2,5,6,12,21,22,23,31,32,33,39,40,41,48]),(13,[2,5,6,12,21,22,23,31,32,33,39,40,41]),(12,[2,5,6,21,22,23,31,32,33,39,40,41,42]),(11,[2,5,6,21,22,23,31,32,33,39,40,41]),(10,[2,5,6,10,21,22,23,31,32,33]),(9,[2,5,6,21,22,23,31,32,33,34]),(8,[2,5,6,21,22,23,31,32,33]),(7,[2,5,6,8,21,22,23]),(6,[2,5,6,21,22,23,24]),(5,[2,5,6,21,22,23]),(4,[1,2,5,6]),(3,[1,2,5]),(2,[4]),(1,[1,2,16]),(0,[1,2])],QZ [],QW [(0,[[2]]),(10,[[10]])]⟩
def q6u:Info:=⟨QN [(10,[4]),(9,[1,2,5,9,10,11]),(8,[1,2,5,9,10,11]),(7,[4]),(6,[1,2,5,7,9,10,11,34]),(5,[1,2,5,7,9,10,11,17]),(4,[1,2,5,7,9,10,11]),(3,[1,2,5,9,10,11,12]),(2,[1,2,5,9,10,11]),(1,[1,2,5]),(0,[1,2])],QZ [],QW [(0,[[2]]),(4,[[7]])]⟩
def NU:Info:=⟨QN [(11,[4]),(10,[0,5,17,18,19]),(9,[0,5,7,17,18,19,25,26,27]),(8,[0,5,7,17,18,19,25,26,27]),(7,[0,5,7,9,17,18,19,25,26,27]),(6,[0,5,7,17,18,19,25,26,27,28]),(5,[0,5,7,17,18,19,25,26,27]),(4,[0,5,7,17,18,19]),(3,[0,5,17,18,19,20]),(2,[0,5,17,18,19]),(1,[0,1,5]),(0,[0,1])],QZ [],QW [(4,[[7]])]⟩
def HF:Info:=⟨QN [(1,[4]),(0,[0,1])],QZ [(1,(sT 4 (sT 5 (sF 0 (sF 1 (sF 2 (sF 3 (sT 6 (sT 7 (sT 8 .nil))))))))))],QW []⟩
def BT:Info:=⟨QN [(13,[4]),(12,[5]),(11,[0,5,6,17,18,19]),(10,[0,5,6,17,18,19]),(9,[0,5,6,8,17,18,19]),(8,[0,5,6,8,17,18,19,32]),(7,[0,5,6,8,17,18,19]),(6,[0,5,6,17,18,19,20]),(5,[0,5,6,17,18,19]),(4,[0,1,5,6]),(3,[0,1,5]),(2,[4]),(1,[0,1,10]),(0,[0,1])],QZ [],QW []⟩
def x4q:Info:=⟨QN [(3,[2]),(2,[2]),(1,[1,5]),(0,[1])],QZ [],QW [(0,[[1]])]⟩
def UW:Info:=⟨QN [(3,[2]),(2,[2]),(1,[0,4]),(0,[0])],QZ [],QW []⟩
def YH:Info:=⟨QN [(1,[4]),(0,[0,1])],QZ [],QW []⟩
def KM:Info:=⟨QN [(7,[2]),(6,[1,2,3,14,15]),(5,[1,2,3,14,15]),(4,[1,2,3,4,14,15]),(3,[1,2,3,14,15,16]),(2,[1,2,3,14,15]),(1,[1,2,3]),(0,[1,2])],QZ [(5,(sT 2 (sT 3 (sT 4 (sT 5 (sT 6 (sF 0 (.fork 1 (sT 7 (sT 8 (sT 9 (sT 10 (sT 11 .nil))))) 7 (.fork 1 (sT 8 (sT 9 (sT 10 (sT 11 .nil)))) 8 (sT 1 (sT 9 (sT 10 (sT 11 .nil)))))))))))))],QW [(0,[[1]])]⟩
def x6m:Info:=⟨QN [(2,[2]),(1,[0]),(0,[0])],QZ [],QW []⟩
def LX:Info:=⟨QN [(12,[2]),(11,[0,3,9,10,11]),(10,[0,3,9,10,11,15,16,17]),(9,[0,3,9,10,11,15,16,17]),(8,[0,3,7,9,10,11,15,16,17,34]),(7,[0,3,7,9,10,11,15,16,17]),(6,[0,3,9,10,11,15,16,17,18]),(5,[0,3,9,10,11,15,16,17]),(4,[0,3,5,9,10,11]),(3,[0,3,9,10,11,12]),(2,[0,3,9,10,11]),(1,[0,3]),(0,[0])],QZ [],QW []⟩
def q1u:Info:=⟨QN [(1,[2]),(0,[0])],QZ [],QW []⟩
def x5u:Info:=⟨QN [(1,[2]),(0,[0])],QZ [],QW []⟩
def z5a:Info:=⟨QN [(3,[4]),(2,[0,1]),(1,[0,1,20]),(0,[0,1])],QZ [],QW []⟩
def z3z:Info:=⟨QN [(16,[2]),(15,[2]),(14,[4]),(13,[3,4]),(12,[3,4]),(11,[3,4]),(10,[3,4]),(9,[3,4]),(8,[3,4]),(7,[3,4]),(6,[3,4]),(5,[3,4]),(4,[3,4]),(3,[3,4]),(2,[3,4]),(1,[3]),(0,[0])],QZ [],QW []⟩
def x0s:Info:=⟨QN [(26,[2]),(25,[2]),(24,[1,89]),(23,[2]),(22,[1,3,4,5,70]),(6,[1,3,4,5,6,7,8,9]),(9,[1,3,4,5,6,7,8,9]),(11,[1,3,4,5,6,7,8,9]),(13,[1,3,4,5,6,7,8,9]),(15,[1,3,4,5,6,7,8,9]),(17,[1,3,4,5,6,7,8,9]),(19,[1,3,4,5,6,7,8,9]),(4,[2]),(21,[1,3,4,5,6,7,8,9,37]),(20,[1,3,4,5,6,7,8,9,16,37]),(18,[1,3,4,5,6,7,8,9,16,33]),(16,[1,3,4,5,6,7,8,9,16,31]),(14,[1,3,4,5,6,7,8,9,16,29]),(12,[1,3,4,5,6,7,8,9,16,24]),(10,[1,3,4,5,6,7,8,9,16,22]),(8,[1,3,4,5,6,7,8,9,16,19]),(7,[1,3,4,5,6,7,8,9,16,19]),(5,[1,3,4,5,6,7,8,9,16,17]),(3,[1,3,4,5,6,7,8,9,16]),(2,[1,3,4,5,6,7,8,9]),(1,[1,3,4,5,6,7,8]),(0,[1])],QZ [(1,(sT 0 (sT 1 (sT 2 (sT 3 (sT 4 (sT 5 (sT 6 (sT 7 .nil)))))))))],QW [(0,[[1]])]⟩
def x6g:Info:=⟨QN [(12,[2]),(11,[3,21,22,23]),(10,[3,21,22,23]),(9,[3,7,21,22,23]),(8,[3,21,22,23,24]),(7,[3,21,22,23]),(6,[1,3,9,10,11]),(5,[1,3,9,10,11]),(4,[1,3,5,9,10,11]),(3,[1,3,9,10,11,12]),(2,[1,3,9,10,11]),(1,[1,3]),(0,[1])],QZ [],QW [(0,[[1]]),(4,[[5]]),(9,[[7]])]⟩
def z9u:Info:=⟨QN [(3,[6,7]),(2,[6,7]),(1,[1,2,3,10]),(0,[1,2,3])],QZ [],QW [(0,[[3]])]⟩
def YQ:Info:=⟨QN [(16,[0,1,2,6]),(15,[0,1,2,6]),(14,[0,1,2,6,7,9,54]),(13,[0,1,2,6,7,9]),(12,[0,1,2,6,7,8]),(11,[0,1,2,6,7,8]),(10,[0,1,2,6,8]),(9,[0,1,2,6,7,8,35]),(8,[0,1,2,6,7,8]),(7,[0,1,2,6,30]),(6,[0,1,2,6]),(5,[0,1,2,6,7,8]),(4,[0,1,2,6,7,8]),(3,[0,1,2,6,8]),(2,[0,1,2,6,7,8,13]),(1,[0,1,2,6,7,8]),(0,[0,1,2,6])],QZ [],QW []⟩
def WO:Info:=⟨QN [(7,[4]),(6,[0,1,7,8]),(5,[4]),(4,[0,1,5,7,8,16]),(3,[0,1,5,7,8]),(2,[0,1,7,8,9]),(1,[0,1,7,8]),(0,[0,1])],QZ [],QW []⟩
def x5h:Info:=⟨QN [(12,[2]),(11,[3,25,26,27]),(10,[3,25,26,27]),(9,[3,5,25,26,27]),(8,[3,5,25,26,27,32]),(7,[3,5,25,26,27]),(6,[3,25,26,27,28]),(5,[3,25,26,27]),(4,[1,3]),(3,[1,3]),(2,[1,3,13]),(1,[1,3]),(0,[1])],QZ [],QW [(0,[[1]]),(7,[[5]])]⟩
def x3f:Info:=⟨QN [(9,[4]),(8,[1,12,13,14]),(7,[4]),(6,[1,12,13,14,26]),(5,[1,5,6,12,13,14]),(4,[1,12,13,14,15]),(3,[1,12,13,14]),(2,[4]),(1,[0,1,11]),(0,[0,1])],QZ [(6,(sT 0 (sT 1 (sT 2 (sT 3 (sT 4 (sT 5 (sT 6 (sT 7 .nil)))))))))],QW [(5,[[6]])]⟩
def q9s:Info:=⟨QN [(1,[4]),(0,[2,3])],QZ [],QW [(0,[[2],[3]])]⟩
def x8a:Info:=⟨QN [(12,[4]),(11,[5]),(4,[0,5,6]),(10,[0,5,6,22,23,24]),(9,[0,5,6,22,23,24]),(8,[0,5,6,8,22,23,24,31]),(7,[0,5,6,8,22,23,24]),(6,[0,5,6,22,23,24,25]),(5,[0,5,6,22,23,24]),(3,[0,5,6,14]),(2,[0,5,6]),(1,[0,5]),(0,[0,1])],QZ [],QW []⟩
def LB:Info:=⟨QN [(15,[4]),(3,[4]),(5,[4]),(7,[4]),(9,[4]),(11,[4]),(14,[4]),(13,[5]),(12,[0,3,58]),(10,[0,3,9,55]),(8,[0,3,9,50]),(6,[0,3,9,37]),(4,[0,3,9,25]),(2,[0,3,9,10]),(1,[0,3,9]),(0,[0,3])],QZ [(3,(sT 0 (sT 1 (sT 2 (sT 3 (sT 4 (sF 6 (sF 7 (sF 8 (sF 9 (sF 10 (sT 5 (sT 11 (sT 12 (sT 13 .nil))))))))))))))),(5,(sT 0 (sT 1 (sT 2 (sT 3 (sT 4 (sT 5 (sF 7 (sF 8 (sT 6 (sT 9 (sT 10 .nil)))))))))))),(7,(sT 0 (sT 1 (sT 2 (sT 3 (sT 4 (sT 5 (sT 6 (sT 7 (sT 8 (sT 9 (sT 10 (sT 11 .nil)))))))))))))],QW [(0,[[3]])]⟩
def x8k:Info:=⟨QN [(9,[4]),(8,[5,20,21,22]),(7,[5,20,21,22]),(6,[5,7,20,21,22]),(5,[5,20,21,22,23]),(4,[5,20,21,22]),(3,[1,5]),(2,[4]),(1,[0,1,13]),(0,[0,1])],QZ [(3,(sF 0 (sF 2 (.fork 1 (sT 3 (sT 4 (sT 5 (sT 6 .nil)))) 3 (sT 1 (sT 4 (sT 5 (sT 6 .nil))))))))],QW [(3,[[19]]),(6,[[7]])]⟩
def JR:Info:=⟨QN [(1,[4]),(0,[0,1])],QZ [],QW []⟩
def x2e:Info:=⟨QN [(11,[6]),(3,[0,1,2,7]),(10,[0,1,2,7,22,23,24]),(9,[0,1,2,7,22,23,24]),(8,[0,1,2,7,9,22,23,24]),(7,[0,1,2,7,9,22,23,24,32]),(6,[0,1,2,7,9,22,23,24]),(5,[0,1,2,7,22,23,24,25]),(4,[0,1,2,7,22,23,24]),(2,[0,1,2,7,13]),(1,[0,1,2,7]),(0,[0,1,2])],QZ [],QW []⟩
def q6p:Info:=⟨QN [(8,[2]),(7,[3,6,7,8]),(6,[3,6,7,8]),(5,[3,4,6,7,8,13]),(4,[3,4,5,6,7,8]),(3,[3,6,7,8,9]),(2,[3,6,7,8]),(1,[0,3]),(0,[0])],QZ [],QW []⟩
def q6y:Info:=⟨QN [(1,[2]),(0,[1])],QZ [],QW [(0,[[1]])]⟩
def x0g:Info:=⟨QN [(8,[4]),(7,[1,23,24,25]),(6,[1,23,24,25]),(5,[1,6,23,24,25]),(4,[1,23,24,25,26]),(3,[1,23,24,25]),(2,[1,2]),(1,[1,2,16]),(0,[1,2])],QZ [],QW [(0,[[2]]),(5,[[6]])]⟩
def KP:Info:=⟨QN [(7,[4]),(6,[0,1,7,8]),(5,[4]),(4,[0,1,5,7,8,16]),(3,[0,1,5,7,8]),(2,[0,1,7,8,9]),(1,[0,1,7,8]),(0,[0,1])],QZ [],QW []⟩
def x0k:Info:=⟨QN [(1,[4]),(0,[2,3])],QZ [(1,(sT 0 (sT 1 (sF 3 (sF 4 (sF 7 (sF 8 (sF 10 (sF 11 (sF 14 (sF 15 (sF 16 (sF 17 (sT 2 (sT 5 (sT 6 (sT 9 (sT 12 (sT 13 (sT 18 (sT 19 (sT 20 (sT 21 .nil)))))))))))))))))))))))],QW [(0,[[2],[3]])]⟩
def ZT:Info:=⟨QN [(16,[4]),(5,[0,1,5]),(15,[4]),(14,[0,5]),(10,[0,1,5,6,7]),(13,[0,1,5,6,7]),(12,[0,1,5,6,7]),(11,[0,1,5,6,7,49]),(9,[0,1,5,6,7,35]),(8,[0,1,5,6,7]),(7,[0,1,5,6]),(6,[0,1,5,28]),(4,[0,1,5,15]),(3,[0,1,5]),(2,[4]),(1,[0,1,10]),(0,[0,1])],QZ [(6,(sT 0 (sT 1 (sT 2 (sT 3 (sT 4 (sT 5 (sT 6 (sT 7 (sT 8 (sT 9 (sT 10 .nil)))))))))))),(11,(sT 0 (sT 1 (sT 2 (sT 3 (sT 4 (sT 5 (sT 6 (sT 7 (sT 8 (sT 9 (sT 10 (sT 11 .nil)))))))))))))],QW []⟩
def x1j:Info:=⟨QN [(1,[4]),(0,[2,3])],QZ [],QW [(0,[[2],[3]])]⟩
def q3a:Info:=⟨QN [(24,[2]),(23,[0,3,4,7,69,70]),(22,[0,3,4,7,69,70]),(21,[0,3,4,7,8,9,69,70,86,87]),(20,[0,3,4,7,8,9,69,70,86,87]),(19,[0,3,4,7,8,9,10,69,70,86,87,95]),(18,[0,3,4,7,8,9,10,69,70,86,87]),(17,[0,3,4,7,8,9,69,70,86,87,88]),(16,[0,3,4,7,8,9,69,70,86,87]),(15,[0,3,4,7,8,9,69,70]),(14,[0,3,4,7,8,69,70,84]),(13,[0,3,4,7,8,69,70]),(12,[0,3,4,7,69,70,71]),(11,[0,3,4,7,69,70]),(10,[0,3,4,7]),(9,[0,3,4,43,44,45]),(8,[0,3,4,43,44,45]),(7,[0,3,4,6,43,44,45,59]),(6,[0,3,4,6,43,44,45]),(5,[0,3,4,43,44,45,46]),(4,[0,3,4,43,44,45]),(3,[0,3,4]),(2,[0,3,4]),(1,[0,3]),(0,[0])],QZ [(3,(sT 0 (sT 1 (sT 2 (sT 3 (sT 5 (sT 6 (sT 7 (sT 8 (sT 9 (sT 10 (sT 11 (sT 12 (sT 13 (sF 4 (sT 14 (sT 15 (sT 16 .nil)))))))))))))))))),(7,(sT 0 (sT 1 (sT 2 (sT 3 (sT 4 (sT 5 (sT 6 (sT 7 (sT 8 (sT 9 (sT 10 .nil))))))))))))],QW [(6,[[6]])]⟩
def x6f:Info:=⟨QN [(1,[2]),(0,[0])],QZ [],QW []⟩
def x4z:Info:=⟨QN [(1,[4]),(0,[0,1])],QZ [],QW []⟩
def x5v:Info:=⟨QN [(1,[4]),(0,[1,2])],QZ [],QW [(0,[[2]])]⟩
def x0f:Info:=⟨QN [(7,[2]),(6,[5,6,7]),(5,[2]),(4,[5,6,7,25]),(3,[4,5,6,7]),(2,[5,6,7,8]),(1,[5,6,7]),(0,[0])],QZ [],QW [(3,[[4]])]⟩
def z5i:Info:=⟨QN [(21,[6,7]),(20,[6,7]),(19,[3,9,11,84]),(18,[3,9,10,11]),(17,[6,7]),(16,[1,2,3,9,72]),(15,[6,7]),(14,[1,2,3,9,65]),(13,[6,7]),(12,[1,2,3,9,51]),(11,[6,7]),(10,[1,2,3,9,47]),(9,[1,2,3,9,10]),(3,[6,7]),(8,[6,7]),(7,[6,7]),(6,[2,8,31]),(5,[2,8]),(4,[1,2,3,18]),(2,[1,2,3,13,14]),(1,[1,2,3,13]),(0,[1,2,3])],QZ [],QW [(0,[[3]])]⟩
def WE:Info:=⟨QN [(2,[0,1,2,3,8]),(5,[0,1,2,3,8,9]),(6,[0,1,2,3,8,9]),(4,[0,1,2,3,8,9,34]),(3,[0,1,2,3,8,9]),(1,[0,1,2,3,8,14]),(0,[0,1,2,3,8])],QZ [(4,(sT 0 (sT 1 (sT 2 (sT 3 (sT 4 (sT 5 (sT 6 (sT 7 (sT 8 (sT 9 (sT 10 (sT 11 (sT 12 (sT 13 (sT 14 (sT 15 (sT 16 .nil)))))))))))))))))),(6,(sT 0 (sT 1 (sT 5 (sT 6 (sT 7 (sT 8 (sT 9 (sT 10 (sT 11 (sT 12 (sT 13 (sT 14 (sF 2 (sF 3 (sF 4 (sT 15 (sT 16 (sT 17 .nil)))))))))))))))))))],QW []⟩
def UJ:Info:=⟨QN [(44,[]),(43,[0,3,4,18,24,213]),(42,[0,3,4,18,24]),(41,[0,1,3,4,18,20,24,199]),(40,[0,1,3,4,18,20,24]),(39,[0,1,2,3,4,18,20,24,185]),(38,[0,1,2,3,4,18,20,24]),(36,[0,1,2,3,4,18,19,20,21,22]),(37,[0,1,2,3,4,18,19,20,21,22]),(35,[0,1,2,3,4,18,19,20,21,22,23,171]),(34,[0,1,2,3,4,18,19,20,21,22,23]),(33,[0,1,2,3,4,18,19,20,21,22,151]),(32,[0,1,2,3,4,18,19,20,21,22]),(29,[0,1,2,3,4,18,19,20,21]),(28,[0,1,2,3,4,18,19,20]),(31,[0,1,2,3,4,18,19,20,21]),(30,[0,1,2,3,4,18,19,20]),(27,[0,1,2,3,4,18,19,140]),(26,[0,1,2,3,4,18,19]),(25,[0,1,2,3,4,18,19]),(24,[0,1,2,3,4,18]),(22,[0,14,17]),(23,[0,14,17]),(21,[0,14,17,110]),(20,[0,14,17]),(18,[0,2,4,14,15]),(19,[0,2,4,14,15]),(17,[0,2,4,14,15,16,103]),(16,[0,2,4,14,15,16]),(15,[0,2,4,14,15,85]),(14,[0,2,4,14,15]),(13,[0,2,4,14]),(12,[0,1,2,3,4,80]),(10,[0,10,13]),(11,[0,10,13]),(9,[0,10,13,58]),(8,[0,10,13]),(6,[0,1,4,10,11]),(7,[0,1,4,10,11]),(5,[0,1,4,10,11,12,50]),(4,[0,1,4,10,11,12]),(3,[0,1,4,10,11,33]),(2,[0,1,4,10,11]),(1,[0,1,3,4,10]),(0,[0,1,2,3,4,28])],QZ [(5,(sT 0 (sT 1 (sT 2 (sT 3 (sT 4 (sT 5 (sT 6 (sT 7 (sT 8 (sT 9 (sT 10 .nil)))))))))))),(11,(sT 0 (sT 1 (sT 5 (sT 6 (sT 7 (sT 8 (sT 9 (sT 10 (sT 11 (sT 12 (sT 13 (sT 14 (sF 2 (sF 3 (sF 4 (sT 15 (sT 16 (sT 17 .nil))))))))))))))))))),(17,(sT 0 (sT 1 (sT 2 (sT 3 (sT 4 (sT 5 (sT 6 (sT 7 (sT 8 (sT 9 (sT 10 (sT 11 .nil))))))))))))),(23,(sT 0 (sT 1 (sT 5 (sT 6 (sT 7 (sT 8 (sT 9 (sT 10 (sT 11 (sT 12 (sT 13 (sT 14 (sF 2 (sF 3 (sF 4 (sT 15 (sT 16 (sT 17 .nil))))))))))))))))))),(35,(sT 0 (sT 1 (sT 2 (sT 3 (sT 4 (sT 5 (sT 6 (sT 7 (sT 8 (sT 9 (sT 10 (sT 11 (sT 12 (sT 13 .nil)))))))))))))))],QW []⟩
def ZM:Info:=⟨QN [(1,[4]),(0,[0,1])],QZ [],QW []⟩
def q3y:Info:=⟨QN [(1,[3]),(0,[1,2])],QZ [],QW [(0,[[2]])]⟩
def q9j:Info:=⟨QN [(9,[4]),(8,[5]),(7,[5,12,13,14]),(6,[5,12,13,14]),(5,[5,7,12,13,14,21]),(4,[5,7,12,13,14]),(3,[5,12,13,14,15]),(2,[5,12,13,14]),(1,[0,1,5]),(0,[0,1])],QZ [],QW [(4,[[7]])]⟩
def x7h:Info:=⟨QN [(3,[4]),(2,[4]),(1,[0,1,7]),(0,[0,1])],QZ [],QW []⟩
def MB:Info:=⟨QN [(9,[6]),(8,[]),(7,[0,1,2,7]),(6,[0,1,2]),(5,[6]),(4,[0,1,2,7,31]),(3,[0,1,2,7,8]),(2,[6]),(1,[0,1,2,18]),(0,[0,1,2])],QZ [(6,(sT 13 (sF 0 (sF 1 (sF 2 (sF 3 (sF 4 (sF 5 (sF 6 (sF 7 (sF 8 (sF 9 (sF 10 (sF 11 (sF 12 (sT 14 (sT 15 (sT 16 (sT 17 .nil))))))))))))))))))),(8,(sT 13 (sF 0 (sF 1 (sF 2 (sF 3 (sF 4 (sF 5 (sF 6 (sF 7 (sF 8 (sF 9 (sF 10 (sF 11 (sF 12 (sT 14 (sT 15 (sT 16 (sT 17 .nil)))))))))))))))))))],QW []⟩
def q4f:Info:=⟨QN [(16,[4]),(15,[1,49,50,51]),(14,[4]),(13,[1,49,50,51,59]),(12,[1,6,49,50,51]),(11,[1,49,50,51,52]),(10,[1,49,50,51]),(9,[4]),(8,[1,2,47]),(5,[4]),(7,[4]),(6,[1,2,30]),(4,[1,2,19,20]),(3,[1,2,19]),(2,[4]),(1,[1,2,17]),(0,[1,2])],QZ [(1,(sT 0 (sT 1 (sT 2 (sT 6 (sT 7 (sF 3 (sF 4 (sF 5 (sT 8 (sT 9 (sT 10 .nil))))))))))))],QW [(0,[[2]]),(12,[[6]])]⟩
def BA:Info:=⟨QN [(18,[2]),(8,[0,3,4,5,6]),(17,[0,3,4,5,6,8,60,61,62]),(16,[0,3,4,5,6,8,60,61,62]),(15,[0,3,4,5,6,8,10,60,61,62]),(14,[0,3,4,5,6,8,60,61,62,63]),(13,[0,3,4,5,6,8,60,61,62]),(12,[0,3,4,5,6,7,8]),(11,[0,3,4,5,6,7]),(10,[0,3,4,5,6]),(9,[0,3,4,5,6,40]),(7,[0,3,4,5,6,31]),(6,[0,3,4,5,6]),(5,[0,3,4,5]),(4,[0,3,4]),(3,[0,3]),(2,[2]),(1,[0,12]),(0,[0])],QZ [(11,(sT 5 (sT 6 (sT 7 (sT 8 (sF 0 (sF 1 (sF 2 (sF 3 (sF 4 (sT 9 (sT 10 (sT 11 .nil)))))))))))))],QW []⟩
def x6o:Info:=⟨QN [(1,[2]),(0,[1])],QZ [],QW [(0,[[1]])]⟩
def z3o:Info:=⟨QN [(6,[4,5]),(3,[4,5]),(5,[4,5]),(4,[1,11]),(2,[1,6,7]),(1,[1,6]),(0,[0,1])],QZ [],QW []⟩
def x6q:Info:=⟨QN [(1,[2]),(0,[0])],QZ [],QW []⟩
def z3x:Info:=⟨QN [(15,[6,7]),(3,[6,7]),(5,[6,7]),(7,[6,7]),(10,[6,7]),(12,[6,7]),(14,[6,7]),(13,[0,1,2,42]),(11,[0,1,2,8,33]),(9,[0,1,2,8,24]),(8,[0,1,2,8,24]),(6,[0,1,2,8,19]),(4,[0,1,2,8,14]),(2,[0,1,2,8,9]),(1,[0,1,2,8]),(0,[0,1,2])],QZ [],QW []⟩
def UE:Info:=⟨QN [(8,[]),(5,[0,2,4,10,11]),(4,[0,2,4,10,11]),(7,[0,2,4,10,11]),(6,[0,2,4,10,11]),(3,[0,2,4,10,11,23]),(2,[0,2,4,10,11,20]),(1,[0,2,4,10,11]),(0,[0,2,3,4,10])],QZ [],QW []⟩
def x8v:Info:=⟨QN [(7,[2]),(2,[2]),(4,[2]),(6,[2]),(5,[17]),(3,[0,10]),(1,[0,3]),(0,[0])],QZ [],QW []⟩
def MQ:Info:=⟨QN [(21,[2]),(20,[0,3,4,5,6,26,27]),(19,[0,3,4,5,6,26,27]),(18,[0,3,4,5,6,9,26,27]),(17,[0,3,4,5,6,9,26,27,96]),(16,[0,3,4,5,6,9,26,27]),(15,[0,3,4,5,6,8,9,26,27]),(14,[0,3,4,5,6,26,27]),(13,[0,3,4,5,6,26,27]),(12,[0,3,4,5,6,8,26,27,63]),(11,[0,3,4,5,6,8,26,27]),(10,[0,3,4,5,6,26,27,44]),(9,[0,3,4,5,6,26,27]),(8,[0,3,4,5,6,7,26,27]),(7,[0,3,4,5,6,7,26,27,34]),(6,[0,3,4,5,6,7,26,27]),(5,[0,3,4,5,6,26,27,28]),(4,[0,3,4,5,6,26,27]),(3,[0,3,4,5,6]),(2,[0,3,4,5]),(1,[0,3,4]),(0,[0])],QZ [(12,(sT 0 (sT 1 (sT 2 (sT 3 (sT 4 (sT 5 (sT 6 (sT 7 (sT 8 (sT 9 (sT 10 (sT 11 (sT 12 .nil)))))))))))))),(15,(sT 0 (sT 1 (sT 2 (sT 3 (sT 4 (sT 5 (sT 6 (sT 7 (sT 8 (sT 9 (sT 10 (sT 11 (sT 12 (sT 13 .nil)))))))))))))))],QW []⟩
def FW:Info:=⟨QN [(8,[2]),(6,[0,3,4]),(7,[0,3,4]),(5,[0,3,4,15]),(4,[0,3,4]),(3,[0,3]),(2,[0]),(1,[0,7]),(0,[0])],QZ [],QW []⟩
def z4a:Info:=⟨QN [(3,[2]),(2,[2]),(1,[3]),(0,[0])],QZ [],QW []⟩
def x0c:Info:=⟨QN [(11,[6,7]),(10,[6,7]),(9,[1,2,20]),(8,[6,7]),(7,[6,7]),(6,[1,15]),(5,[6,7]),(4,[1,13]),(3,[0,1,2,11]),(2,[6,7]),(1,[0,1,2,9]),(0,[0,1,2])],QZ [],QW []⟩
def q6h:Info:=⟨QN [(14,[6,7]),(3,[6,7]),(5,[6,7]),(7,[6,7]),(9,[6,7]),(11,[6,7]),(13,[6,7]),(12,[1,2,39]),(10,[1,2,8,33]),(8,[1,2,8,27]),(6,[1,2,8,21]),(4,[1,2,8,15]),(2,[1,2,8,9]),(1,[1,2,8]),(0,[0,1,2])],QZ [],QW []⟩
def UQ:Info:=⟨QN [(2,[0,1,2,3,10]),(3,[0,1,2,3,10]),(1,[0,1,2,3,10,13]),(0,[0,1,2,3,10])],QZ [(3,(sT 0 (sT 1 (sT 2 (sT 3 (sT 8 (sT 9 (sT 10 (sT 11 (sT 12 (sT 13 (sT 14 (sT 15 (sT 16 (sT 17 (sT 18 (sT 19 (sT 20 (sF 4 (sF 5 (sF 6 (sF 7 (sT 21 (sT 22 (sT 23 .nil)))))))))))))))))))))))))],QW []⟩
abbrev Str:=List UInt8
inductive X where
 | mk (op n:Int) (name:Str) (kids:List X)
namespace X
def op:X->Int | .mk a _ _ _=>a
def n:X->Int | .mk _ a _ _=>a
def name:X->Str | .mk _ _ a _=>a
def kids:X->List X | .mk _ _ _ a=>a
end X
structure Arg where
 ref:Bool
 name:Str
 x:X
inductive S where
 | mk (id kind:Int) (labels:List Str) (name proc:Str) (x:X) (has:Bool) (args:List Arg) (thn els:List S)
namespace S
def id:S->Int | .mk a _ _ _ _ _ _ _ _ _=>a
def kind:S->Int | .mk _ a _ _ _ _ _ _ _ _=>a
def labels:S->List Str | .mk _ _ a _ _ _ _ _ _ _=>a
def name:S->Str | .mk _ _ _ a _ _ _ _ _ _=>a
def proc:S->Str | .mk _ _ _ _ a _ _ _ _ _=>a
def x:S->X | .mk _ _ _ _ _ a _ _ _ _=>a
def has:S->Bool | .mk _ _ _ _ _ _ a _ _ _=>a
def args:S->List Arg | .mk _ _ _ _ _ _ _ a _ _=>a
def thn:S->List S | .mk _ _ _ _ _ _ _ _ a _=>a
def els:S->List S | .mk _ _ _ _ _ _ _ _ _ a=>a
end S
structure Param where
 name:Str
 ref:Bool
structure Pr where
 name:Str
 params:List Param
 vars:List Str
 body:List S
 fin:List Str
structure Pg where
 globals:List Str
 procs:List Pr
structure Step where
 src:Int
 dst:Int
 kind:Int
 deriving DecidableEq
def QP (l:List Str):AV := .sl (l.map .str)
def QA (l:List Int):AV := .sl (l.map (.int .i64))
mutual
def X.av:X->AV
 | .mk op n name kids => .agg [.int .i64 op,.int .i64 n,.str name,.sl (X.avs kids)]
def X.avs:List X->List AV
 | []=>[]
 | x::r=>X.av x::X.avs r
end
def X.cells (x:X):List AV:=[.int .i64 x.op,.int .i64 x.n,.str x.name,.sl (X.avs x.kids)]
theorem X.av_eq (x:X):x.av = .agg x.cells:=by cases x;simp only [X.av,X.cells,X.op,X.n,X.name,X.kids]
theorem X.avs_eq : ∀ l:List X,X.avs l=l.map fun x => .agg x.cells
 | []=>by simp only [X.avs,map_nil]
 | x::r=>by simp only [X.avs,X.av_eq,X.avs_eq r,map_cons]
def Arg.cells (a:Arg):List AV := .bool a.ref :: .str a.name::a.x.cells
mutual
def S.av:S->AV
 | .mk id kind labels name proc x has args thn els => .agg (.int .i64 id :: .int .i64 kind::QP labels :: .str name :: .str proc::(x.cells++[.bool has,.sl (args.map fun a => .agg a.cells),.sl (S.avs thn),.sl (S.avs els)]))
def S.avs:List S->List AV
 | []=>[]
 | x::r=>S.av x::S.avs r
end
def S.cells (s:S):List AV :=
 [.int .i64 s.id,.int .i64 s.kind,QP s.labels,.str s.name,.str s.proc,.int .i64 s.x.op,.int .i64 s.x.n,.str s.x.name,.sl (X.avs s.x.kids),.bool s.has,.sl (s.args.map fun a => .agg a.cells),.sl (S.avs s.thn),.sl (S.avs s.els)]
theorem S.av_eq (s:S):s.av = .agg s.cells:=by cases s;simp only [S.av,S.cells,X.cells,S.id,S.kind,S.labels,S.name,S.proc,S.x,S.has,S.args,S.thn,S.els,List.cons_append,List.nil_append]
theorem S.avs_eq : ∀ l:List S,S.avs l=l.map fun x => .agg x.cells
 | []=>by simp only [S.avs,map_nil]
 | x::r=>by simp only [S.avs,S.av_eq,S.avs_eq r,map_cons]
def eSs (l:List S):AV := .sl (S.avs l)
def w1x (l:List Arg):AV := .sl (l.map fun a => .agg a.cells)
def Param.cells (a:Param):List AV:=[.str a.name,.bool a.ref]
def Pr.cells (f:Pr):List AV:=[.str f.name,.sl (f.params.map fun a => .agg a.cells),QP f.vars,eSs f.body,QP f.fin]
def Pg.cells (p:Pg):List AV:=[QP p.globals,.sl (p.procs.map fun f => .agg f.cells)]
def Step.cells (s:Step):List AV:=[.int .i64 s.src,.int .i64 s.dst,.int .i64 s.kind]
def GG (l:List Step):AV := .sl (l.map fun s => .agg s.cells)
open Go.Proofs Go.ChangeShapes
def VY (w:World):Mem:=fun b=>match w.heap[b]? with
 | some (.cells c _ _)=>some c
 | _=>none
theorem z3y (w:World):(VY w).lies w:=by
 intro b c h;unfold VY at h;split at h
 ·rename_i c' e fr hh;cases h;exact ⟨e,fr,hh⟩
 ·cases h
theorem z2p {w:World} {a:Addr} {v:Value} (h:w.cell? a=some v):a.spot=none ∧ ∃ cells,VY w a.block=some cells∧cells[a.off]? = some v:=by
 refine ⟨World.cell?_spot h,?_⟩;unfold World.cell? at h;split at h
 ·rename_i c e fr hh;split at h
  ·cases h
  ·exact ⟨c,by unfold VY;rw [hh],h⟩
 ·cases h
def RepCs (σ:Mem) (avs:List AV) (cs:List Value):Prop:=cs.length=avs.length ∧ ∀ (j:Nat) (c:AV),avs[j]? = some c -> ∃ u,cs[j]? = some u∧Rep σ c u
theorem RepCs.nil (σ:Mem):RepCs σ [] []:=⟨rfl,by simp⟩
theorem RepCs.one {σ:Mem} {a:AV} {v:Value} (h:Rep σ a v):RepCs σ [a] [v]:=⟨rfl,fun j c hj=>by
 cases j with
 | zero=>cases hj;exact ⟨v,rfl,h⟩
 | succ j=>simp at hj⟩
theorem RepCs.append {σ:Mem} {xs ys:List AV} {cs ds:List Value} (h:RepCs σ xs cs) (h':RepCs σ ys ds):RepCs σ (xs++ys) (cs++ds):=by
 refine ⟨by simp [h.1,h'.1],fun j c hj => ?_⟩;rw [List.getElem?_append] at hj ⊢;rw [h.1];split at hj
 ·rw [if_pos (by assumption)];exact h.2 j c hj
 ·rw [if_neg (by assumption)];exact h'.2 _ c hj
theorem RepCs.of_agg {σ:Mem} {avs:List AV} {vs:Array Value} (h:RepCs σ avs vs.toList):Rep σ (.agg avs) (.agg vs):=by
 refine .agg avs vs (fun j=>vs[j]?.getD undef) (by simpa using h.1) (fun j c hj => ?_) (fun j c hj => ?_)
 ·obtain ⟨u,h1,_⟩:=h.2 j c hj;rw [Array.getElem?_toList] at h1;simp [h1]
 ·obtain ⟨u,h1,h2⟩:=h.2 j c hj;rw [Array.getElem?_toList] at h1;simpa [h1] using h2
section
variable {H:Type} {enc:TypeId×Value->H} {P:Program} {w:World} {base:Nat} {spare:Nat->Bool} {held:Bool}
theorem q5d {t:TypeId} {n:Nat} {cs:List Value} {x:DataW H×List MemPlace} (ht:P.underlying t=some .string) (h:DataW.trod enc P w base spare held n t cs=some x) : ∃ s:Str,RepCs (VY w) [.str s] cs:=by
 obtain ⟨s,rfl,_,h1⟩:=DataW.trod_string ht h;exact ⟨s.data.toList,.one (Rep.str (σ:=VY w) s.data.toList (by simpa using h1))⟩
theorem x2r {t:TypeId} {n:Nat} {cs:List Value} {x:DataW H×List MemPlace} (ht:P.underlying t=some (.int .i64)) (h:DataW.trod enc P w base spare held n t cs=some x) : ∃ i:Int,RepCs (VY w) [.int .i64 i] cs:=by
 obtain ⟨i,rfl,_⟩:=DataW.trod_int ht h;exact ⟨i,.one (.int _ _)⟩
theorem z6n {t:TypeId} {n:Nat} {cs:List Value} {x:DataW H×List MemPlace} (ht:P.underlying t=some .bool) (h:DataW.trod enc P w base spare held n t cs=some x) : ∃ b:Bool,RepCs (VY w) [.bool b] cs:=by
 obtain ⟨b,rfl,_⟩:=DataW.trod_bool ht h;exact ⟨b,.one (.bool b)⟩
theorem RepCs.step {σ:Mem} {xs ys:List AV} {cs:List Value} {o k:Nat} (h:RepCs σ xs ((cs.drop o).take k)) (h':RepCs σ ys (cs.drop (o+k))):RepCs σ (xs++ys) (cs.drop o):=by
 have:=h.append h'
 rwa [<- List.drop_drop,List.take_append_drop] at this
theorem RepCs.fin {σ:Mem} {cs:List Value} {o:Nat} (h:cs.length=o):RepCs σ [] (cs.drop o):=by
 rw [List.drop_eq_nil_of_le (by omega)];exact .nil σ
theorem PN {α:Type} [Inhabited α] (F:α->AV) (hspare : ∀ b,spare b=true) {t e:TypeId} {n:Nat} {cs:List Value} {x:DataW H×List MemPlace} (ht:P.underlying t=some (.slice e)) {sz:Nat} (hsz:P.cellsOf e=sz) (hF : ∀ a,(F a).cells.length=sz) (hpos:0<sz)
  (hd : ∀ m cs' y,m<n->DataW.trod enc P w base spare held m e cs'=some y -> ∃ a,RepCs (VY w) (F a).cells cs') (h:DataW.trod enc P w base spare held n t cs=some x) : ∃ l:List α,RepCs (VY w) [.sl (l.map F)] cs:=by
 rcases DataW.trod_slice ht h with ⟨rfl,_⟩|⟨a,len,cap,elems,rest,m,hn,rfl,_,hb,hl,hm,hlen,hel,hsp,_⟩
 ·exact ⟨[],.one .nilsl⟩
 subst hsz;have key : ∀ i,i<len -> ∃ A,∀ (j:Nat) (c:AV),(F A).cells[j]? = some c -> ∃ u,w.cell? (a.add (i*P.cellsOf e+j))=some u∧Rep (VY w) c u:=by
  intro i hi;have h1:=hel i hi;rw [List.getElem?_eq_getElem (by omega)] at h1;obtain ⟨cs',h2,h3⟩:=Option.bind_eq_some_iff.1 h1;obtain ⟨A,h4,h5⟩:=hd m cs' _ (by omega) h3;obtain ⟨_,h6,h7⟩:=World.cells?_some h2;refine ⟨A,fun j c hj => ?_⟩;obtain ⟨u,h8,h9⟩:=h5 j c hj;have hj':j<P.cellsOf e:=by rw [<- hF A];exact (List.getElem?_eq_some_iff.1 hj).1
  have:=h7 j hj';rw [Deep.add_add] at this;exact ⟨u,this.trans h8,h9⟩
 have spot : ∀ k u,w.cell? (a.add k)=some u->(k=0->a.spot=none) ∧ ∃ cells,VY w a.block=some cells∧cells[a.off+k]? = some u:=fun k u hk=>by
  have h1:=z2p hk;unfold Addr.add at h1;split at h1
  ·rename_i h0;subst h0;exact ⟨fun _=>h1.1,h1.2⟩
  ·exact ⟨fun h=>absurd h (by assumption),h1.2⟩
 obtain ⟨b,off,sp⟩:=a;by_cases hcap:cap=0
 ·subst hcap;obtain rfl:len=0:=by omega
  exact ⟨[],.one (.slz _)⟩
 have hmem:sp=none ∧ ∃ cells,VY w b=some cells:=by
  by_cases hc0:len=0
  ·subst hc0;have h1:=(hsp (hspare _)).1;have h2:=(hsp (hspare _)).2 0 (by omega);rw [List.getElem?_eq_getElem (by omega)] at h2;obtain ⟨cs',h3,_⟩:=Option.bind_eq_some_iff.1 h2;obtain ⟨_,h4,h5⟩:=World.cells?_some h3;have h6:=h5 0 hpos;rw [Deep.add_add,List.getElem?_eq_getElem (by omega)] at h6;obtain ⟨h7,cells,h8,_⟩:=spot _ _ h6;exact ⟨h7 (by omega),cells,h8⟩
  ·obtain ⟨A,hA⟩:=key 0 (by omega);have hj:0<(F A).cells.length:=by rw [hF A];exact hpos
   obtain ⟨u,h1,_⟩:=hA 0 _ (List.getElem?_eq_getElem hj);obtain ⟨h7,cells,h8,_⟩:=spot _ _ h1;exact ⟨h7 (by omega),cells,h8⟩
 obtain ⟨rfl,cells,hcells⟩:=hmem;obtain ⟨f,hf⟩:=Deep.choose_lt key;refine ⟨(List.range len).map f,.one ?_⟩;have hll:(((List.range len).map f).map F).length=len:=by simp
 have hget : ∀ (i:Nat) (x:AV),(((List.range len).map f).map F)[i]? = some x->i<len∧x=F (f i):=fun i x hi=>by
  have hlt:i<len:=by rw [<- hll];exact (List.getElem?_eq_some_iff.1 hi).1
  simp [hlt] at hi;exact ⟨hlt,hi.symm⟩
 have hcell : ∀ (i:Nat) (x:AV) (j:Nat) (c:AV),(((List.range len).map f).map F)[i]? = some x->x.cells[j]? = some c -> ∃ u,cells[off+i*P.cellsOf e+j]? = some u∧Rep (VY w) c u:=fun i x j c hi hj=>by
  obtain ⟨hlt,rfl⟩:=hget i x hi;obtain ⟨u,h1,h2⟩:=hf i hlt j c hj;obtain ⟨_,cells',h3,h4⟩:=spot _ _ h1;rw [hcells] at h3;cases h3;exact ⟨u,by rw [Nat.add_assoc];exact h4,h2⟩
 have:=Rep.sl (σ:=VY w) (((List.range len).map f).map F) b off cap (P.cellsOf e) cells (fun i j=>(cells[off+i*P.cellsOf e+j]?).getD undef) hcells (by rw [hll];exact hl) hm (fun i x hi=>by rw [(hget i x hi).2,hF])
  (fun i x j c hi hj=>by
    obtain ⟨u,h1,_⟩:=hcell i x j c hi hj;rw [h1];rfl) (fun i x j c hi hj=>by
    obtain ⟨u,h1,h2⟩:=hcell i x j c hi hj;rw [h1];exact h2)
 rw [hll] at this;exact this
end
section
variable {H:Type} {enc:TypeId×Value->H} {w:World}
def z3q (i:TyI):Array Field:=match i.desc with
 | .struct fs=>fs
 | _ => #[]
instance:Inhabited X:=⟨.mk 0 0 [] []⟩
instance:Inhabited Arg:=⟨⟨false,[],default⟩⟩
instance:Inhabited S:=⟨.mk 0 0 [] [] [] default false [] [] []⟩
instance:Inhabited Param:=⟨⟨[],false⟩⟩
instance:Inhabited Pr:=⟨⟨[],[],[],[],[]⟩⟩
noncomputable abbrev Rd (H:Type) (enc:TypeId×Value->H) (w:World) (n:Nat) (t:TypeId) (cs:List Value):Option (DataW H×List MemPlace):=DataW.trod enc Tryz.prog w 0 (fun _=>true) true n t cs
theorem NQ {n:Nat} {t:TypeId} {cs:List Value} {x:DataW H×List MemPlace} (ht:Tryz.prog.underlying t=some (.slice 9)) (h:Rd H enc w n t cs=some x) : ∃ l:List Str,RepCs (VY w) [QP l] cs :=
 PN AV.str (fun _=>rfl) ht (by kernel_rfl) (fun _=>rfl) Nat.one_pos (fun m cs' y _ hy=>q5d (by kernel_rfl) hy) h
theorem w6b : ∀ (n:Nat) (cs:List Value) (x:DataW H×List MemPlace),Rd H enc w n 36 cs=some x -> ∃ e:X,RepCs (VY w) e.cells cs:=by
 intro n;induction n using Nat.strongRecOn with
 | _ n ih =>
   intro cs x h;obtain ⟨xs,m,rfl,_,hlen,hxl,hf⟩:=DataW.trod_struct (fs:=z3q v3u) (by kernel_rfl) h;replace hlen:cs.length=4:=hlen.trans (by kernel_rfl);have fld:=fun (i:Nat) (f:Field) (hi:(z3q v3u)[i]? = some f)=>(hf i f hi).trans (List.getElem?_eq_getElem (by rw [hxl];exact (Array.getElem?_eq_some_iff.1 hi).1));obtain ⟨op,h0⟩:=x2r (by kernel_rfl) (fld 0 _ rfl);obtain ⟨nn,h1⟩:=x2r (by kernel_rfl) (fld 1 _ rfl);obtain ⟨nm,h2⟩:=q5d (by kernel_rfl) (fld 2 _ rfl);obtain ⟨ks,h3⟩:=PN (fun x:X => .agg x.cells) (fun _=>rfl) (e:=36) (sz:=4) (by kernel_rfl) (by kernel_rfl) (fun _=>rfl) (by decide) (fun m' cs' y hm hy=>ih m' (by omega) cs' y hy) (fld 3 _ rfl);refine ⟨.mk op nn nm ks,?_⟩;have:=RepCs.step (o:=0) (k:=1) h0 (RepCs.step (o:=1) (k:=1) h1 (RepCs.step (o:=2) (k:=1) h2 (RepCs.step (o:=3) (k:=1) h3 (RepCs.fin hlen))));unfold X.cells;rw [X.avs_eq];exact this
theorem w1i (n:Nat) (cs:List Value) (x:DataW H×List MemPlace) (h:Rd H enc w n 126 cs=some x) : ∃ e:Arg,RepCs (VY w) e.cells cs:=by
 obtain ⟨xs,m,rfl,_,hlen,hxl,hf⟩:=DataW.trod_struct (fs:=z3q w7j) (by kernel_rfl) h;replace hlen:cs.length=6:=hlen.trans (by kernel_rfl);have fld:=fun (i:Nat) (f:Field) (hi:(z3q w7j)[i]? = some f)=>(hf i f hi).trans (List.getElem?_eq_getElem (by rw [hxl];exact (Array.getElem?_eq_some_iff.1 hi).1));obtain ⟨rf,h0⟩:=z6n (by kernel_rfl) (fld 0 _ rfl);obtain ⟨nm,h1⟩:=q5d (by kernel_rfl) (fld 1 _ rfl);obtain ⟨e,h2⟩:=w6b _ _ _ (fld 2 _ rfl);refine ⟨⟨rf,nm,e⟩,?_⟩;have:=RepCs.step (o:=0) (k:=1) h0 (RepCs.step (o:=1) (k:=1) h1 (RepCs.step (o:=2) (k:=4) h2 (RepCs.fin hlen)));exact this
theorem w7q : ∀ (n:Nat) (cs:List Value) (x:DataW H×List MemPlace),Rd H enc w n 40 cs=some x -> ∃ e:S,RepCs (VY w) e.cells cs:=by
 intro n;induction n using Nat.strongRecOn with
 | _ n ih =>
   intro cs x h;obtain ⟨xs,m,rfl,_,hlen,hxl,hf⟩:=DataW.trod_struct (fs:=z3q v3n) (by kernel_rfl) h;replace hlen:cs.length=13:=hlen.trans (by kernel_rfl);have fld:=fun (i:Nat) (f:Field) (hi:(z3q v3n)[i]? = some f)=>(hf i f hi).trans (List.getElem?_eq_getElem (by rw [hxl];exact (Array.getElem?_eq_some_iff.1 hi).1));obtain ⟨id,h0⟩:=x2r (by kernel_rfl) (fld 0 _ rfl);obtain ⟨kd,h1⟩:=x2r (by kernel_rfl) (fld 1 _ rfl);obtain ⟨lb,h2⟩:=NQ (by kernel_rfl) (fld 2 _ rfl);obtain ⟨nm,h3⟩:=q5d (by kernel_rfl) (fld 3 _ rfl);obtain ⟨pc,h4⟩:=q5d (by kernel_rfl) (fld 4 _ rfl);obtain ⟨e,h5⟩:=w6b _ _ _ (fld 5 _ rfl);obtain ⟨hs,h6⟩:=z6n (by kernel_rfl) (fld 6 _ rfl);obtain ⟨ar,h7⟩:=PN (fun x:Arg => .agg x.cells) (fun _=>rfl) (e:=126) (sz:=6) (by kernel_rfl) (by kernel_rfl) (fun _=>rfl) (by decide) (fun m' cs' y hm hy=>w1i m' cs' y hy) (fld 7 _ rfl);obtain ⟨th,h8⟩:=PN (fun x:S => .agg x.cells) (fun _=>rfl) (e:=40) (sz:=13) (by kernel_rfl) (by kernel_rfl) (fun _=>rfl) (by decide) (fun m' cs' y hm hy=>ih m' (by omega) cs' y hy) (fld 8 _ rfl);obtain ⟨el,h9⟩:=PN (fun x:S => .agg x.cells) (fun _=>rfl) (e:=40) (sz:=13) (by kernel_rfl) (by kernel_rfl) (fun _=>rfl) (by decide) (fun m' cs' y hm hy=>ih m' (by omega) cs' y hy) (fld 9 _ rfl);refine ⟨.mk id kd lb nm pc e hs ar th el,?_⟩;have:=RepCs.step (o:=0) (k:=1) h0 (RepCs.step (o:=1) (k:=1) h1 (RepCs.step (o:=2) (k:=1) h2 (RepCs.step (o:=3) (k:=1) h3 (RepCs.step (o:=4) (k:=1) h4 (RepCs.step (o:=5) (k:=4) h5 (RepCs.step (o:=9) (k:=1) h6 (RepCs.step (o:=10) (k:=1) h7 (RepCs.step (o:=11) (k:=1) h8 (RepCs.step (o:=12) (k:=1) h9 (RepCs.fin hlen))))))))));unfold S.cells;rw [S.avs_eq,S.avs_eq];exact this
theorem z2r (n:Nat) (cs:List Value) (x:DataW H×List MemPlace) (h:Rd H enc w n 97 cs=some x) : ∃ e:Param,RepCs (VY w) e.cells cs:=by
 obtain ⟨xs,m,rfl,_,hlen,hxl,hf⟩:=DataW.trod_struct (fs:=z3q v3q) (by kernel_rfl) h;replace hlen:cs.length=2:=hlen.trans (by kernel_rfl);have fld:=fun (i:Nat) (f:Field) (hi:(z3q v3q)[i]? = some f)=>(hf i f hi).trans (List.getElem?_eq_getElem (by rw [hxl];exact (Array.getElem?_eq_some_iff.1 hi).1));obtain ⟨nm,h0⟩:=q5d (by kernel_rfl) (fld 0 _ rfl);obtain ⟨rf,h1⟩:=z6n (by kernel_rfl) (fld 1 _ rfl);refine ⟨⟨nm,rf⟩,?_⟩;have:=RepCs.step (o:=0) (k:=1) h0 (RepCs.step (o:=1) (k:=1) h1 (RepCs.fin hlen));exact this
theorem w9f (n:Nat) (cs:List Value) (x:DataW H×List MemPlace) (h:Rd H enc w n 90 cs=some x) : ∃ e:Pr,RepCs (VY w) e.cells cs:=by
 obtain ⟨xs,m,rfl,_,hlen,hxl,hf⟩:=DataW.trod_struct (fs:=z3q v5w) (by kernel_rfl) h;replace hlen:cs.length=5:=hlen.trans (by kernel_rfl);have fld:=fun (i:Nat) (f:Field) (hi:(z3q v5w)[i]? = some f)=>(hf i f hi).trans (List.getElem?_eq_getElem (by rw [hxl];exact (Array.getElem?_eq_some_iff.1 hi).1));obtain ⟨nm,h0⟩:=q5d (by kernel_rfl) (fld 0 _ rfl);obtain ⟨pm,h1⟩:=PN (fun x:Param => .agg x.cells) (fun _=>rfl) (e:=97) (sz:=2) (by kernel_rfl) (by kernel_rfl) (fun _=>rfl) (by decide) (fun m' cs' y hm hy=>z2r m' cs' y hy) (fld 1 _ rfl);obtain ⟨vs,h2⟩:=NQ (by kernel_rfl) (fld 2 _ rfl);obtain ⟨bd,h3⟩:=PN (fun x:S => .agg x.cells) (fun _=>rfl) (e:=40) (sz:=13) (by kernel_rfl) (by kernel_rfl) (fun _=>rfl) (by decide) (fun m' cs' y hm hy=>w7q m' cs' y hy) (fld 3 _ rfl);obtain ⟨fn,h4⟩:=NQ (by kernel_rfl) (fld 4 _ rfl);refine ⟨⟨nm,pm,vs,bd,fn⟩,?_⟩;have:=RepCs.step (o:=0) (k:=1) h0 (RepCs.step (o:=1) (k:=1) h1 (RepCs.step (o:=2) (k:=1) h2 (RepCs.step (o:=3) (k:=1) h3 (RepCs.step (o:=4) (k:=1) h4 (RepCs.fin hlen)))));unfold Pr.cells eSs;rw [S.avs_eq];exact this
theorem w7n (n:Nat) (cs:List Value) (x:DataW H×List MemPlace) (h:Rd H enc w n 25 cs=some x) : ∃ e:Pg,RepCs (VY w) e.cells cs:=by
 obtain ⟨xs,m,rfl,_,hlen,hxl,hf⟩:=DataW.trod_struct (fs:=z3q v2g) (by kernel_rfl) h;replace hlen:cs.length=2:=hlen.trans (by kernel_rfl);have fld:=fun (i:Nat) (f:Field) (hi:(z3q v2g)[i]? = some f)=>(hf i f hi).trans (List.getElem?_eq_getElem (by rw [hxl];exact (Array.getElem?_eq_some_iff.1 hi).1));obtain ⟨gl,h0⟩:=NQ (by kernel_rfl) (fld 0 _ rfl);obtain ⟨ps,h1⟩:=PN (fun x:Pr => .agg x.cells) (fun _=>rfl) (e:=90) (sz:=5) (by kernel_rfl) (by kernel_rfl) (fun _=>rfl) (by decide) (fun m' cs' y hm hy=>w9f m' cs' y hy) (fld 1 _ rfl);refine ⟨⟨gl,ps⟩,?_⟩;have:=RepCs.step (o:=0) (k:=1) h0 (RepCs.step (o:=1) (k:=1) h1 (RepCs.fin hlen));exact this

theorem w8x {v:Value} {base:Nat} {d:DataW H} {ps:List MemPlace} (hv:Value.okWide Tryz.prog w .any base 25 v) (h:DataW.Trod enc Tryz.prog w 0 (fun _=>true) true 25 v d ps) : ∃ p:Pg,Rep (VY w) (.agg p.cells) v:=by
 have hu:Tryz.prog.underlying 25=some (.struct (z3q v2g)):=by kernel_rfl
 unfold Value.okWide at hv;rw [hu] at hv;obtain ⟨cs,rfl,_,_⟩:=hv;obtain ⟨n,hn⟩:=h;obtain ⟨p,hp⟩:=w7n n _ _ hn;exact ⟨p,hp.of_agg⟩
end
section
variable {H:Type} {enc:TypeId×Value->H} {w:World}
theorem w7i {n:Nat} {t:TypeId} {cs:List Value} {x:DataW H×List MemPlace} (ht:Tryz.prog.underlying t=some (.slice 2)) (h:Rd H enc w n t cs=some x) : ∃ l:List Int,RepCs (VY w) [QA l] cs :=
 PN (AV.int .i64) (fun _=>rfl) ht (by kernel_rfl) (fun _=>rfl) Nat.one_pos (fun m cs' y _ hy=>x2r (by kernel_rfl) hy) h
theorem w8w {v:Value} {base:Nat} {d:DataW H} {ps:List MemPlace} (hv:Value.okWide Tryz.prog w .any base 54 v) (h:DataW.Trod enc Tryz.prog w 0 (fun _=>true) true 54 v d ps) : ∃ l:List Int,Rep (VY w) (QA l) v:=by
 have hu:Tryz.prog.underlying 54=some (.slice 2):=by kernel_rfl
 unfold Value.okWide at hv;rw [hu] at hv;obtain ⟨n,hn⟩:=h;obtain ⟨l,hl,hp⟩:=w7i hu hn;obtain ⟨u,h1,h2⟩:=hp 0 _ rfl;refine ⟨l,?_⟩;have hv:Cell.okWide Tryz.prog w .any base 54 v:=hv;cases v;all_goals first
  | (cases h1;exact h2)
  | (exfalso;unfold Cell.okWide at hv;rw [hu] at hv;exact hv)
end
end Go.Ab
