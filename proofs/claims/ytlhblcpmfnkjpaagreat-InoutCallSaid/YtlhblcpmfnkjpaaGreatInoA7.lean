/- The table of the types that the program's text names. -/
import Derived.Test.YtlhblcpmfnkjpaaGreatChecked
import Derived.Test.YtlhblcpmfnkjpaaGreatInoA6
set_option linter.unusedSimpArgs false
set_option linter.unusedVariables false
set_option maxRecDepth 100000
set_option maxHeartbeats 16000000
open List (map_cons map_nil)
open Nat (beq)
namespace Go.Ab
open Go.Proofs
def ty0:TyI:=⟨Go.TypeDesc.tuple #[],1,0,(.tuple #[])⟩
def ty2:TyI:=⟨Go.TypeDesc.int (Go.IntKind.i64),1,8,(.int .i64 0)⟩
def ty3:TyI:=⟨Go.TypeDesc.int (Go.IntKind.i64),1,8,(.int .i64 0)⟩
def ty4:TyI:=⟨Go.TypeDesc.bool,1,1,(.bool false)⟩
def ty5:TyI:=⟨Go.TypeDesc.int (Go.IntKind.u8),1,1,(.int .u8 0)⟩
def ty9:TyI:=⟨Go.TypeDesc.string,1,16,(.string ByteArray.empty)⟩
def v3x:TyI:=⟨Go.TypeDesc.interface #[],1,16,.nilIface⟩
def v3p:TyI:=⟨Go.TypeDesc.slice 9,1,24,(.slice none 0 0)⟩
def v3v:TyI:=⟨Go.TypeDesc.slice 68,1,24,(.slice none 0 0)⟩
def w9w:TyI:=⟨Go.TypeDesc.struct #[{ name := "Globals",type:=22,offset:=0,embedded:=false,tag := "",pkgPath := "",byteOffset:=0 },{ name := "Procs",type:=23,offset:=1,embedded:=false,tag := "",pkgPath := "",byteOffset:=24 }],2,48,(.agg #[(.slice none 0 0),(.slice none 0 0)])⟩
def v3h:TyI:=⟨Go.TypeDesc.slice 36,1,24,(.slice none 0 0)⟩
def v1m:TyI:=⟨Go.TypeDesc.struct #[{ name := "Op",type:=3,offset:=0,embedded:=false,tag := "",pkgPath := "",byteOffset:=0 },{ name := "N",type:=2,offset:=1,embedded:=false,tag := "",pkgPath := "",byteOffset:=8 },{ name := "Name",type:=9,offset:=2,embedded:=false,tag := "",pkgPath := "",byteOffset:=16 },{ name := "Kids",type:=34,offset:=3,embedded:=false,tag := "",pkgPath := "",byteOffset:=32 }],4,56,(.agg #[(.int .i64 0),(.int .i64 0),(.string ByteArray.empty),(.slice none 0 0)])⟩
def v3q:TyI:=⟨Go.TypeDesc.slice 74,1,24,(.slice none 0 0)⟩
def v3d:TyI:=⟨Go.TypeDesc.slice 40,1,24,(.slice none 0 0)⟩
def v1y:TyI:=⟨Go.TypeDesc.struct #[{ name := "Id",type:=3,offset:=0,embedded:=false,tag := "",pkgPath := "",byteOffset:=0 },{ name := "Kind",type:=3,offset:=1,embedded:=false,tag := "",pkgPath := "",byteOffset:=8 },{ name := "Labels",type:=22,offset:=2,embedded:=false,tag := "",pkgPath := "",byteOffset:=16 },{ name := "Name",type:=9,offset:=3,embedded:=false,tag := "",pkgPath := "",byteOffset:=40 },{ name := "Proc",type:=9,offset:=4,embedded:=false,tag := "",pkgPath := "",byteOffset:=56 },{ name := "X",type:=36,offset:=5,embedded:=false,tag := "",pkgPath := "",byteOffset:=72 },{ name := "Has",type:=4,offset:=9,embedded:=false,tag := "",pkgPath := "",byteOffset:=128 },{ name := "Args",type:=37,offset:=10,embedded:=false,tag := "",pkgPath := "",byteOffset:=136 },{ name := "Then",type:=38,offset:=11,embedded:=false,tag := "",pkgPath := "",byteOffset:=160 },{ name := "Else",type:=38,offset:=12,embedded:=false,tag := "",pkgPath := "",byteOffset:=184 }],13,208,(.agg #[(.int .i64 0),(.int .i64 0),(.slice none 0 0),(.string ByteArray.empty),(.string ByteArray.empty),(.int .i64 0),(.int .i64 0),(.string ByteArray.empty),(.slice none 0 0),(.bool false),(.slice none 0 0),(.slice none 0 0),(.slice none 0 0)])⟩
def v3w:TyI:=⟨Go.TypeDesc.struct #[{ name := "S",type:=40,offset:=0,embedded:=false,tag := "",pkgPath := "",byteOffset:=0 },{ name := "Deep",type:=3,offset:=13,embedded:=false,tag := "",pkgPath := "",byteOffset:=208 },{ name := "In",type:=3,offset:=14,embedded:=false,tag := "",pkgPath := "",byteOffset:=216 },{ name := "Else",type:=4,offset:=15,embedded:=false,tag := "",pkgPath := "",byteOffset:=224 }],16,232,(.agg #[(.int .i64 0),(.int .i64 0),(.slice none 0 0),(.string ByteArray.empty),(.string ByteArray.empty),(.int .i64 0),(.int .i64 0),(.string ByteArray.empty),(.slice none 0 0),(.bool false),(.slice none 0 0),(.slice none 0 0),(.slice none 0 0),(.int .i64 0),(.int .i64 0),(.bool false)])⟩
def v2c:TyI:=⟨Go.TypeDesc.tuple #[42,9,4],1,0,(.tuple #[(.agg #[(.int .i64 0),(.int .i64 0),(.slice none 0 0),(.string ByteArray.empty),(.string ByteArray.empty),(.int .i64 0),(.int .i64 0),(.string ByteArray.empty),(.slice none 0 0),(.bool false),(.slice none 0 0),(.slice none 0 0),(.slice none 0 0),(.int .i64 0),(.int .i64 0),(.bool false)]),(.string ByteArray.empty),(.bool false)])⟩
def v3f:TyI:=⟨Go.TypeDesc.slice 22,1,24,(.slice none 0 0)⟩
def v3j:TyI:=⟨Go.TypeDesc.slice 60,1,24,(.slice none 0 0)⟩
def v3k:TyI:=⟨Go.TypeDesc.slice 3,1,24,(.slice none 0 0)⟩
def v2t:TyI:=⟨Go.TypeDesc.slice 72,1,24,(.slice none 0 0)⟩
def v0b:TyI:=⟨Go.TypeDesc.struct #[{ name := "Name",type:=9,offset:=0,embedded:=false,tag := "",pkgPath := "",byteOffset:=0 },{ name := "Params",type:=66,offset:=1,embedded:=false,tag := "",pkgPath := "",byteOffset:=16 },{ name := "Vars",type:=22,offset:=2,embedded:=false,tag := "",pkgPath := "",byteOffset:=40 },{ name := "Body",type:=38,offset:=3,embedded:=false,tag := "",pkgPath := "",byteOffset:=64 },{ name := "End",type:=22,offset:=4,embedded:=false,tag := "",pkgPath := "",byteOffset:=88 }],5,112,(.agg #[(.string ByteArray.empty),(.slice none 0 0),(.slice none 0 0),(.slice none 0 0),(.slice none 0 0)])⟩
def v2n:TyI:=⟨Go.TypeDesc.tuple #[68,4],1,0,(.tuple #[(.agg #[(.string ByteArray.empty),(.slice none 0 0),(.slice none 0 0),(.slice none 0 0),(.slice none 0 0)]),(.bool false)])⟩
def ty72:TyI:=⟨Go.TypeDesc.struct #[{ name := "Name",type:=9,offset:=0,embedded:=false,tag := "",pkgPath := "",byteOffset:=0 },{ name := "Ref",type:=4,offset:=1,embedded:=false,tag := "",pkgPath := "",byteOffset:=16 }],2,24,(.agg #[(.string ByteArray.empty),(.bool false)])⟩
def w9b:TyI:=⟨Go.TypeDesc.struct #[{ name := "Ref",type:=4,offset:=0,embedded:=false,tag := "",pkgPath := "",byteOffset:=0 },{ name := "Name",type:=9,offset:=1,embedded:=false,tag := "",pkgPath := "",byteOffset:=8 },{ name := "X",type:=36,offset:=2,embedded:=false,tag := "",pkgPath := "",byteOffset:=24 }],6,80,(.agg #[(.bool false),(.string ByteArray.empty),(.int .i64 0),(.int .i64 0),(.string ByteArray.empty),(.slice none 0 0)])⟩
def v2s:TyI:=⟨Go.TypeDesc.tuple #[3,4],1,0,(.tuple #[(.int .i64 0),(.bool false)])⟩
def v2o:TyI:=⟨Go.TypeDesc.slice 150,1,24,(.slice none 0 0)⟩
def v2m:TyI:=⟨Go.TypeDesc.slice 156,1,24,(.slice none 0 0)⟩
def v2l:TyI:=⟨Go.TypeDesc.slice 42,1,24,(.slice none 0 0)⟩
def v0z:TyI:=⟨Go.TypeDesc.tuple #[3,3],1,0,(.tuple #[(.int .i64 0),(.int .i64 0)])⟩
def v0f:TyI:=⟨Go.TypeDesc.int (Go.IntKind.i64),1,8,(.int .i64 0)⟩
def v1n:TyI:=⟨Go.TypeDesc.struct #[{ name := "Code",type:=108,offset:=0,embedded:=false,tag := "",pkgPath := "",byteOffset:=0 },{ name := "At",type:=3,offset:=1,embedded:=false,tag := "",pkgPath := "",byteOffset:=8 }],2,16,(.agg #[(.int .i64 0),(.int .i64 0)])⟩
def v0k:TyI:=⟨Go.TypeDesc.pointer 125,1,8,(.pointer none)⟩
def v0h:TyI:=⟨Go.TypeDesc.pointer 181,1,8,(.pointer none)⟩
def v1v:TyI:=⟨Go.TypeDesc.slice 135,1,24,(.slice none 0 0)⟩
def v0n:TyI:=⟨Go.TypeDesc.struct #[{ name := "S",type:=122,offset:=0,embedded:=false,tag := "",pkgPath := "",byteOffset:=0 },{ name := "Ways",type:=123,offset:=1,embedded:=false,tag := "",pkgPath := "",byteOffset:=8 },{ name := "Defs",type:=45,offset:=2,embedded:=false,tag := "",pkgPath := "",byteOffset:=32 },{ name := "Uses",type:=45,offset:=3,embedded:=false,tag := "",pkgPath := "",byteOffset:=56 },{ name := "Ins",type:=45,offset:=4,embedded:=false,tag := "",pkgPath := "",byteOffset:=80 },{ name := "Outs",type:=45,offset:=5,embedded:=false,tag := "",pkgPath := "",byteOffset:=104 }],6,128,(.agg #[(.pointer none),(.slice none 0 0),(.slice none 0 0),(.slice none 0 0),(.slice none 0 0),(.slice none 0 0)])⟩
def w9l:TyI:=⟨Go.TypeDesc.pointer 139,1,8,(.pointer none)⟩
def v1z:TyI:=⟨Go.TypeDesc.slice 4,1,24,(.slice none 0 0)⟩
def v1w:TyI:=⟨Go.TypeDesc.struct #[{ name := "S",type:=122,offset:=0,embedded:=false,tag := "",pkgPath := "",byteOffset:=0 },{ name := "Proc",type:=3,offset:=1,embedded:=false,tag := "",pkgPath := "",byteOffset:=8 },{ name := "N",type:=3,offset:=2,embedded:=false,tag := "",pkgPath := "",byteOffset:=16 },{ name := "Real",type:=85,offset:=3,embedded:=false,tag := "",pkgPath := "",byteOffset:=24 },{ name := "Live",type:=137,offset:=4,embedded:=false,tag := "",pkgPath := "",byteOffset:=48 }],5,72,(.agg #[(.pointer none),(.int .i64 0),(.int .i64 0),(.slice none 0 0),(.slice none 0 0)])⟩
def v0g:TyI:=⟨Go.TypeDesc.array 2 3,2,16,(.agg #[(.int .i64 0),(.int .i64 0)])⟩
def v0o:TyI:=⟨Go.TypeDesc.struct #[{ name := "From",type:=3,offset:=0,embedded:=false,tag := "",pkgPath := "",byteOffset:=0 },{ name := "To",type:=3,offset:=1,embedded:=false,tag := "",pkgPath := "",byteOffset:=8 },{ name := "Kind",type:=3,offset:=2,embedded:=false,tag := "",pkgPath := "",byteOffset:=16 }],3,24,(.agg #[(.int .i64 0),(.int .i64 0),(.int .i64 0)])⟩
def v0j:TyI:=⟨Go.TypeDesc.struct #[{ name := "S",type:=40,offset:=0,embedded:=false,tag := "",pkgPath := "",byteOffset:=0 },{ name := "Proc",type:=3,offset:=13,embedded:=false,tag := "",pkgPath := "",byteOffset:=208 },{ name := "Up",type:=3,offset:=14,embedded:=false,tag := "",pkgPath := "",byteOffset:=216 },{ name := "Next",type:=3,offset:=15,embedded:=false,tag := "",pkgPath := "",byteOffset:=224 },{ name := "Loop",type:=3,offset:=16,embedded:=false,tag := "",pkgPath := "",byteOffset:=232 }],17,240,(.agg #[(.int .i64 0),(.int .i64 0),(.slice none 0 0),(.string ByteArray.empty),(.string ByteArray.empty),(.int .i64 0),(.int .i64 0),(.string ByteArray.empty),(.slice none 0 0),(.bool false),(.slice none 0 0),(.slice none 0 0),(.slice none 0 0),(.int .i64 0),(.int .i64 0),(.int .i64 0),(.int .i64 0)])⟩
def v1f:TyI:=⟨Go.TypeDesc.slice 177,1,24,(.slice none 0 0)⟩
def v0m:TyI:=⟨Go.TypeDesc.struct #[{ name := "P",type:=25,offset:=0,embedded:=false,tag := "",pkgPath := "",byteOffset:=0 },{ name := "L",type:=179,offset:=2,embedded:=false,tag := "",pkgPath := "",byteOffset:=48 },{ name := "Lo",type:=60,offset:=3,embedded:=false,tag := "",pkgPath := "",byteOffset:=72 },{ name := "Hi",type:=60,offset:=4,embedded:=false,tag := "",pkgPath := "",byteOffset:=96 }],5,120,(.agg #[(.slice none 0 0),(.slice none 0 0),(.slice none 0 0),(.slice none 0 0),(.slice none 0 0)])⟩
def v1t:TyI:=⟨Go.TypeDesc.func #[68] #[4] false,1,8,.nilFunc⟩
def v1l:TyI:=⟨Go.TypeDesc.func #[9] #[4] false,1,8,.nilFunc⟩
def w9n:TyI:=⟨Go.TypeDesc.pointer 271,1,8,(.pointer none)⟩
def w9p:TyI:=⟨Go.TypeDesc.int (Go.IntKind.u64),1,8,(.int .u64 0)⟩
def w9i:TyI:=⟨Go.TypeDesc.tuple #[38,3],1,0,(.tuple #[(.slice none 0 0),(.int .i64 0)])⟩
def v0e:TyI:=⟨Go.TypeDesc.pointer 250,1,8,(.pointer none)⟩
def v1e:TyI:=⟨Go.TypeDesc.struct #[{ name := "seen",type:=3,offset:=0,embedded:=false,tag := "",pkgPath := "whittler/tree",byteOffset:=0 }],1,8,(.agg #[(.int .i64 0)])⟩
def w9c:TyI:=⟨Go.TypeDesc.tuple #[22,4],1,0,(.tuple #[(.slice none 0 0),(.bool false)])⟩
def v1d:TyI:=⟨Go.TypeDesc.map 9 22,1,8,(.map none)⟩
def v0d:TyI:=⟨Go.TypeDesc.struct #[{ name := "next",type:=47,offset:=0,embedded:=false,tag := "",pkgPath := "whittler/graph",byteOffset:=0 },{ name := "prev",type:=47,offset:=1,embedded:=false,tag := "",pkgPath := "whittler/graph",byteOffset:=24 }],2,48,(.agg #[(.slice none 0 0),(.slice none 0 0)])⟩
def v0w:TyI:=⟨Go.TypeDesc.int (Go.IntKind.i64),1,8,(.int .i64 0)⟩
def v1s:TyI:=⟨Go.TypeDesc.tuple #[3,275],1,0,(.tuple #[(.int .i64 0),(.int .i64 0)])⟩
def v0u:TyI:=⟨Go.TypeDesc.int (Go.IntKind.u64),1,8,(.int .u64 0)⟩
def v1o:TyI:=⟨Go.TypeDesc.func #[156,156] #[4] false,1,8,.nilFunc⟩
def v0c:TyI:=⟨Go.TypeDesc.func #[156,156] #[3] false,1,8,.nilFunc⟩
def v1x:TyI:=⟨Go.TypeDesc.int (Go.IntKind.u64),1,8,(.int .u64 0)⟩
def v1u:TyI:=⟨Go.TypeDesc.pointer 3,1,8,(.pointer none)⟩
def w9r:TyI:=⟨Go.TypeDesc.pointer 315,1,8,(.pointer none)⟩
def tab:Tab:=[(0,ty0),(2,ty2),(3,ty3),(4,ty4),(5,ty5),(9,ty9),(20,v3x),(22,v3p),(23,v3v),(25,w9w),(34,v3h),(36,v1m),(37,v3q),(38,v3d),(40,v1y),(42,v3w),(43,v2c),(45,v3f),(47,v3j),(60,v3k),(66,v2t),(68,v0b),(69,v2n),(72,ty72),(74,w9b),(77,v2s),(81,v2o),(85,v2m),(95,v2l),(101,v0z),(108,v0f),(117,v1n),(120,v0k),(122,v0h),(123,v1v),(125,v0n),(135,w9l),(137,v1z),(139,v1w),(150,v0g),(156,v0o),(177,v0j),(179,v1f),(181,v0m),(192,v1t),(202,v1l),(208,w9n),(213,w9p),(225,w9i),(248,v0e),(250,v1e),(257,w9c),(260,v1d),(271,v0d),(275,v0w),(276,v1s),(285,v0u),(290,v1o),(313,v0c),(315,v1x),(319,v1u),(340,w9r)]
theorem QY:TabOK Tryz.prog tab:=by
 repeat refine TabOK.cons (by kernel_rfl) (by kernel_rfl) ?_
 exact TabOK.nil _
theorem mixed:Tryz.prog.follows .mixedOrders=true:=by kernel_rfl
def QF (t:List (Nat×List Nat)) (i:Nat):List Nat :=
 match t with
 | []=>[]
 | (j,l)::r=>bif beq j i then l else QF r i
def QW (t:List (Nat×List (List Nat))) (i:Nat):List (List Nat) :=
 match t with
 | []=>[]
 | (j,l)::r=>bif beq j i then l else QW r i
def QV (t:List (Nat×Sched)) (i:Nat):Sched :=
 match t with
 | [] => .nil
 | (j,l)::r=>bif beq j i then l else QV r i
def JB:Info:=⟨QF [(26,[4]),(25,[2,5,6,8,87,88,89]),(24,[4]),(23,[2,5,6,8,87,88,89,114]),(22,[2,5,6,8,14,15,87,88,89]),(21,[2,5,6,8,87,88,89,90]),(20,[2,5,6,8,87,88,89]),(19,[2,5,6,8,12]),(18,[2,5,6,8,9,51,52,53]),(17,[4]),(16,[2,5,6,8,9,51,52,53,77]),(15,[2,5,6,8,9,11,51,52,53]),(14,[2,5,6,8,9,51,52,53,54]),(13,[2,5,6,8,9,51,52,53]),(12,[2,5,6,8,9]),(11,[4]),(10,[2,5,6,7,43]),(9,[2,5,6,7]),(8,[2,5,6]),(7,[2,5]),(6,[4]),(5,[1,2,23]),(4,[4]),(3,[1,2,20]),(2,[4]),(1,[1,2,17]),(0,[1,2])],QV [(12,(.cons 0 true (.cons 1 true (.cons 2 true (.cons 4 false (.cons 5 false (.cons 3 true (.cons 6 true (.cons 7 true (.cons 8 true .nil)))))))))),(23,(.cons 0 true (.cons 1 true (.cons 2 true (.cons 3 true (.cons 4 true (.cons 5 true (.cons 6 true (.cons 7 true (.cons 8 true (.cons 9 true (.cons 10 true (.cons 12 false (.cons 13 false (.cons 14 false (.cons 15 false (.cons 16 false (.cons 17 false (.cons 11 true (.cons 18 true (.cons 19 true (.cons 20 true .nil)))))))))))))))))))))),(26,(.cons 0 false (.cons 1 false (.cons 4 false (.cons 7 false (.cons 8 false (.fork 2 (.fork 3 (.cons 5 true (.cons 6 true (.cons 9 true (.cons 10 true (.cons 11 true .nil))))) 5 (.cons 3 true (.cons 6 true (.cons 9 true (.cons 10 true (.cons 11 true .nil)))))) 3 (.cons 2 true (.cons 5 true (.cons 6 true (.cons 9 true (.cons 10 true (.cons 11 true .nil)))))))))))))],QW [(0,[[2]]),(8,[[6]]),(19,[[12]]),(22,[[15]])]⟩
def JF:Info:=⟨QF [(11,[4]),(10,[4]),(9,[2,5,6,7,31]),(8,[2,5,6,7]),(7,[2,5]),(6,[4]),(5,[1,2,15]),(4,[4]),(3,[1,2,12]),(2,[4]),(1,[1,2,9]),(0,[1,2])],QV [(8,(.cons 0 true (.cons 1 true (.cons 4 false (.cons 5 false (.cons 2 true (.cons 3 true (.cons 6 true (.cons 7 true (.cons 8 true (.cons 9 true .nil)))))))))))],QW [(0,[[2]])]⟩
def GU:Info:=⟨QF [(2,[0]),(1,[1]),(0,[])],QV [],QW [(1,[[1]])]⟩
def PO:Info:=⟨QF [(12,[2]),(4,[1,3,4]),(11,[1,3,4]),(9,[1,3,4,5,6]),(10,[1,3,4,5,6]),(8,[1,3,4,5,6,44]),(7,[1,3,4,5,6]),(6,[1,3,4,5]),(5,[1,3,4,5]),(3,[1,3,4,18]),(2,[1,3,4]),(1,[1,3]),(0,[1])],QV [(6,(.cons 4 true (.cons 5 true (.cons 6 true (.cons 0 false (.cons 1 false (.cons 2 false (.cons 3 false (.cons 7 true (.cons 8 true (.cons 9 true (.cons 10 true .nil))))))))))))],QW [(0,[[1]]),(5,[[5]])]⟩
def x7i:Info:=⟨QF [(1,[2]),(0,[1])],QV [],QW [(0,[[1]])]⟩
def x5z:Info:=⟨QF [(7,[2]),(6,[3,7,8,9]),(5,[3,7,8,9]),(4,[3,5,7,8,9]),(3,[3,7,8,9,10]),(2,[3,7,8,9]),(1,[1,3]),(0,[1])],QV [],QW [(0,[[1]]),(4,[[5]])]⟩
def HE:Info:=⟨QF [(3,[4]),(2,[4]),(1,[1,2,8]),(0,[1,2])],QV [(3,(.cons 2 true (.cons 3 true (.cons 4 true (.cons 5 true (.cons 0 false (.cons 1 false (.cons 6 true (.cons 7 true (.cons 8 true (.cons 9 true (.cons 10 true .nil))))))))))))],QW [(0,[[2]])]⟩
def HP:Info:=⟨QF [(9,[4]),(8,[0,1,12,13]),(7,[4]),(6,[0,1,12,13,24]),(5,[0,1,5,12,13]),(4,[0,1,12,13,14]),(3,[0,1,12,13]),(2,[4]),(1,[0,1,10]),(0,[0,1])],QV [(6,(.cons 0 true (.cons 1 true (.cons 2 true (.cons 3 true (.cons 4 true (.cons 5 true (.cons 6 true (.cons 7 true (.cons 8 true .nil))))))))))],QW []⟩
def x8y:Info:=⟨QF [(4,[4]),(3,[4]),(2,[1,5,18]),(1,[1,5]),(0,[1,2])],QV [(4,(.cons 4 true (.cons 5 true (.cons 6 true (.cons 7 true (.cons 8 true (.cons 0 false (.cons 1 false (.cons 2 false (.cons 3 false (.cons 9 true (.cons 10 true (.cons 11 true (.cons 12 true .nil))))))))))))))],QW [(0,[[2]])]⟩
def x6g:Info:=⟨QF [(4,[4]),(3,[4]),(2,[1,5,18]),(1,[1,5]),(0,[1,2])],QV [(4,(.cons 4 true (.cons 5 true (.cons 6 true (.cons 7 true (.cons 8 true (.cons 0 false (.cons 1 false (.cons 2 false (.cons 3 false (.cons 9 true (.cons 10 true (.cons 11 true (.cons 12 true .nil))))))))))))))],QW [(0,[[2]])]⟩
def BC:Info:=⟨QF [(11,[4,5,6]),(10,[1,4,12,13,14]),(9,[1,4,8,12,13,14,19,20,21]),(8,[4,5,6]),(7,[1,4,8,10,12,13,14,19,20,21,29]),(6,[1,4,8,10,12,13,14,19,20,21]),(5,[1,4,8,12,13,14,19,20,21,22]),(4,[1,4,8,12,13,14,19,20,21]),(3,[1,4,8,12,13,14]),(2,[1,4,12,13,14,15]),(1,[1,4,12,13,14]),(0,[1,2,4])],QV [(8,(.cons 0 true (.cons 1 false (.cons 2 false (.cons 3 true (.cons 4 true (.cons 5 true .nil)))))))],QW [(0,[[2]]),(3,[[8]]),(6,[[10]])]⟩
def x6e:Info:=⟨QF [(4,[4]),(3,[4]),(2,[1,5,18]),(1,[1,5]),(0,[1,2])],QV [],QW [(0,[[2]])]⟩
def x6i:Info:=⟨QF [(4,[4]),(3,[4]),(2,[1,5,18]),(1,[1,5]),(0,[1,2])],QV [],QW [(0,[[2]])]⟩
def FV:Info:=⟨QF [(1,[4]),(0,[1,2])],QV [],QW [(0,[[2]])]⟩
def q7c:Info:=⟨QF [(1,[2]),(0,[1])],QV [],QW [(0,[[1]])]⟩
def PP:Info:=⟨QF [(3,[4]),(2,[4]),(1,[0,1,7]),(0,[0,1])],QV [],QW []⟩
def LA:Info:=⟨QF [(8,[4]),(7,[1,5,9,10,11]),(6,[1,5,9,10,11]),(5,[1,5,7,9,10,11,23]),(4,[1,5,7,9,10,11]),(3,[1,5,9,10,11,12]),(2,[1,5,9,10,11]),(1,[1,2,5]),(0,[1,2])],QV [],QW [(0,[[2]]),(4,[[7]])]⟩
def NV:Info:=⟨QF [(2,[4]),(1,[4,5]),(0,[1,2,4])],QV [],QW [(0,[[2]]),(1,[[5]])]⟩
def FF:Info:=⟨QF [(2,[4]),(1,[6]),(0,[1,2])],QV [],QW [(0,[[2]]),(1,[[5]])]⟩
def NF:Info:=⟨QF [(1,[4]),(0,[0,1])],QV [],QW []⟩
def z3f:Info:=⟨QF [(10,[4]),(7,[5,6,7]),(9,[5,6,7]),(8,[5,6,7,28]),(6,[5,6,7,19]),(5,[5,6,7]),(4,[5,6]),(3,[4]),(2,[5,12]),(1,[5]),(0,[1,2])],QV [],QW [(0,[[2]])]⟩
def q0e:Info:=⟨QF [(7,[4]),(6,[0,1,7,8]),(5,[4]),(4,[0,1,7,8,16]),(3,[0,1,5,7,8]),(2,[0,1,7,8,9]),(1,[0,1,7,8]),(0,[0,1])],QV [],QW []⟩
def NN:Info:=⟨QF [(8,[4,5]),(7,[1,4,11,12,13]),(6,[4,5]),(5,[1,4,7,11,12,13,20]),(4,[1,4,7,11,12,13]),(3,[1,4,11,12,13,14]),(2,[1,4,11,12,13]),(1,[1,2,4,9]),(0,[1,2,4])],QV [],QW [(0,[[2]]),(4,[[7]])]⟩
def FE:Info:=⟨QF [(7,[4]),(6,[1,7,8,9]),(5,[4]),(4,[1,7,8,9,16]),(3,[1,6,7,8,9]),(2,[1,7,8,9,10]),(1,[1,7,8,9]),(0,[0,1])],QV [],QW []⟩
def BO:Info:=⟨QF [(12,[2]),(11,[3,25,26,27]),(10,[3,25,26,27]),(9,[3,5,25,26,27]),(8,[3,5,25,26,27,32]),(7,[3,5,25,26,27]),(6,[3,25,26,27,28]),(5,[3,25,26,27]),(4,[1,3]),(3,[1,3]),(2,[1,3,13]),(1,[1,3]),(0,[1])],QV [],QW [(0,[[1]]),(7,[[5]])]⟩
def z3q:Info:=⟨QF [(15,[2]),(14,[4]),(13,[1,3,4,5,15,16,17]),(12,[1,3,4,5,15,16,17]),(11,[1,3,4,5,7,15,16,17,33]),(10,[1,3,4,5,6,7,15,16,17]),(9,[1,3,4,5,15,16,17,18]),(8,[1,3,4,5,15,16,17]),(7,[1,3,4,5]),(6,[1,3,4,13]),(5,[1,3,4,5]),(4,[1,3,4]),(3,[1,3]),(2,[2]),(1,[1,10]),(0,[1])],QV [],QW [(0,[[1]]),(10,[[7]])]⟩
def MO:Info:=⟨QF [(9,[2]),(8,[3,7,8,9]),(7,[2]),(6,[3,7,8,9,19]),(5,[3,7,8,9]),(4,[3,5,7,8,9]),(3,[3,7,8,9,10]),(2,[3,7,8,9]),(1,[1,3]),(0,[1])],QV [],QW [(0,[[1]]),(4,[[5]])]⟩
def LY:Info:=⟨QF [(9,[4]),(8,[3,4,5,14,15,16]),(7,[3,4,5,14,15,16]),(6,[3,4,5,8,14,15,16]),(5,[3,4,5,7,8,14,15,16]),(4,[3,4,5,7,14,15,16]),(3,[3,4,5,14,15,16,17]),(2,[3,4,5,14,15,16]),(1,[2,3,4,5]),(0,[2,3,4])],QV [(5,(.cons 0 false (.cons 1 false (.cons 2 false (.cons 3 false (.cons 5 false (.cons 6 false (.cons 8 false (.cons 9 false (.cons 10 false (.fork 4 (.fork 7 (.fork 11 (.cons 12 false (.cons 13 true (.cons 14 true .nil))) 13 (.cons 11 true (.cons 12 true (.cons 14 true .nil)))) 13 (.cons 7 true (.cons 11 true (.cons 12 true (.cons 14 true .nil))))) 13 (.cons 4 true (.cons 7 true (.cons 11 true (.cons 12 true (.cons 14 true .nil))))))))))))))))],QW [(0,[[2],[3]]),(4,[[7]])]⟩
def LP:Info:=⟨QF [(6,[4]),(5,[4]),(4,[0,1,11]),(3,[0,1]),(2,[4]),(1,[0,1,6]),(0,[0,1])],QV [],QW []⟩
def YX:Info:=⟨QF [(3,[0]),(2,[0,1,2]),(1,[0,1]),(0,[0])],QV [],QW [(1,[[1]]),(2,[[2]])]⟩
def JD:Info:=⟨QF [(5,[4]),(3,[0,1,5]),(4,[0,1,5]),(2,[0,1,5,13]),(1,[0,1,5]),(0,[0,1])],QV [],QW []⟩
def KK:Info:=⟨QF [(3,[4]),(2,[4]),(1,[0,1,13]),(0,[0,1])],QV [],QW []⟩
def JN:Info:=⟨QF [(11,[4]),(3,[0,1,5]),(10,[0,1,5]),(8,[0,1,5,6,7]),(9,[0,1,5,6,7]),(7,[0,1,5,6,7,43]),(6,[0,1,5,6,7]),(5,[0,1,5,6]),(4,[0,1,5,6]),(2,[0,1,5,15]),(1,[0,1,5]),(0,[0,1])],QV [(5,(.cons 6 true (.cons 7 true (.cons 8 true (.cons 0 false (.cons 1 false (.cons 2 false (.cons 3 false (.cons 4 false (.cons 5 false (.cons 9 true (.cons 10 true (.cons 11 true (.cons 12 true (.cons 13 true .nil))))))))))))))),(9,(.cons 6 true (.cons 7 true (.cons 8 true (.cons 9 true (.cons 10 true (.cons 11 true (.cons 12 true (.cons 0 false (.cons 1 false (.cons 2 false (.cons 3 false (.cons 4 false (.cons 5 false (.cons 13 true (.cons 14 true (.cons 15 true .nil))))))))))))))))),(10,(.cons 2 true (.cons 3 true (.cons 4 true (.cons 0 false (.cons 1 false (.cons 5 true (.cons 6 true (.cons 7 true .nil)))))))))],QW [(4,[[6]])]⟩
def x9b:Info:=⟨QF [(10,[2]),(9,[2,3]),(8,[1,2,3,22]),(7,[1,2,3]),(6,[1,2,3,17]),(5,[1,2,3]),(4,[1,2,3,12]),(3,[1,2,3]),(2,[2]),(1,[1,2,6]),(0,[1,2])],QV [],QW [(0,[[1]])]⟩
def x4o:Info:=⟨QF [(7,[2]),(6,[0,3,8,9]),(5,[0,3,8,9]),(4,[0,3,4,8,9]),(3,[0,3,8,9,10]),(2,[0,3,8,9]),(1,[0,3]),(0,[0])],QV [(5,(.cons 1 true (.cons 2 true (.cons 3 true (.cons 4 true (.cons 5 true (.cons 0 false (.cons 7 false (.cons 8 false (.cons 9 false (.cons 10 false (.cons 11 false (.cons 6 true (.cons 12 true (.cons 13 true (.cons 14 true (.cons 15 true .nil)))))))))))))))))],QW []⟩
def q9f:Info:=⟨QF [(39,[2]),(38,[1,3,10,147,148]),(37,[1,3,10,147,148]),(36,[1,3,10,13,14,147,148]),(35,[1,3,10,13,14,147,148]),(34,[1,3,10,13,147,148]),(33,[1,3,10,147,148,149]),(32,[1,3,10,147,148]),(31,[1,3,10,124,125,126]),(30,[1,3,10,124,125,126]),(29,[1,3,10,12,124,125,126]),(28,[1,3,10,124,125,126,127]),(27,[1,3,10,124,125,126]),(26,[1,3,10]),(25,[1,3,114]),(24,[1,3,10]),(23,[1,3,5,85,86]),(22,[1,3,5,85,86]),(21,[1,3,5,8,9,85,86]),(20,[1,3,5,8,9,85,86]),(19,[1,3,5,8,85,86]),(18,[1,3,5,85,86,87]),(17,[1,3,5,85,86]),(16,[1,3,5,62,63,64]),(15,[1,3,5,62,63,64]),(14,[1,3,5,7,62,63,64]),(13,[1,3,5,62,63,64,65]),(12,[1,3,5,62,63,64]),(11,[1,3,5]),(10,[1,3,52]),(9,[1,3,5]),(8,[1,3,32,33]),(7,[1,3,32,33]),(6,[1,3,4,32,33]),(5,[1,3,32,33,34]),(4,[1,3,32,33]),(3,[1,3]),(2,[2]),(1,[1,17]),(0,[1])],QV [(3,(.cons 0 false (.cons 2 false (.cons 3 false (.cons 4 false (.cons 6 false (.cons 7 false (.cons 8 false .nil)))))))),(7,(.cons 5 true (.cons 6 true (.cons 7 true (.cons 8 true (.cons 9 true (.cons 0 false (.cons 1 false (.cons 2 false (.cons 3 false (.fork 4 (.cons 10 true (.cons 11 true (.cons 12 true (.cons 13 true (.cons 14 true (.cons 15 true .nil)))))) 10 (.fork 4 (.cons 11 true (.cons 12 true (.cons 13 true (.cons 14 true (.cons 15 true .nil))))) 11 (.cons 4 true (.cons 12 true (.cons 13 true (.cons 14 true (.cons 15 true .nil))))))))))))))))),(15,(.cons 5 true (.cons 6 true (.cons 7 true (.cons 0 false (.cons 1 false (.cons 2 false (.cons 3 false (.fork 4 (.cons 8 true (.cons 9 true (.cons 10 true (.cons 11 true (.cons 12 true (.cons 13 true (.cons 14 true .nil))))))) 8 (.fork 4 (.cons 9 true (.cons 10 true (.cons 11 true (.cons 12 true (.cons 13 true (.cons 14 true .nil)))))) 9 (.fork 4 (.cons 10 true (.cons 11 true (.cons 12 true (.cons 13 true (.cons 14 true .nil))))) 10 (.cons 4 true (.cons 11 true (.cons 12 true (.cons 13 true (.cons 14 true .nil)))))))))))))))),(30,(.cons 5 true (.cons 6 true (.cons 7 true (.cons 0 false (.cons 1 false (.cons 2 false (.cons 3 false (.fork 4 (.cons 8 true (.cons 9 true (.cons 10 true (.cons 11 true (.cons 12 true (.cons 13 true (.cons 14 true .nil))))))) 8 (.fork 4 (.cons 9 true (.cons 10 true (.cons 11 true (.cons 12 true (.cons 13 true (.cons 14 true .nil)))))) 9 (.fork 4 (.cons 10 true (.cons 11 true (.cons 12 true (.cons 13 true (.cons 14 true .nil))))) 10 (.cons 4 true (.cons 11 true (.cons 12 true (.cons 13 true (.cons 14 true .nil))))))))))))))))],QW [(0,[[1]]),(14,[[7]]),(29,[[12]])]⟩
def q0m:Info:=⟨QF [(1,[4]),(0,[0,3])],QV [],QW [(0,[[3]])]⟩
def PH:Info:=⟨QF [(1,[2]),(0,[1])],QV [],QW [(0,[[1]])]⟩
def q3w:Info:=⟨QF [(1,[4]),(0,[0,1])],QV [],QW []⟩
def BG:Info:=⟨QF [(3,[2]),(2,[2]),(1,[1,5]),(0,[1])],QV [],QW [(0,[[1]])]⟩
def q4a:Info:=⟨QF [(16,[4]),(15,[1,49,50,51]),(14,[4]),(13,[1,49,50,51,59]),(12,[1,6,49,50,51]),(11,[1,49,50,51,52]),(10,[1,49,50,51]),(9,[4]),(8,[1,2,47]),(5,[4]),(7,[4]),(6,[1,2,30]),(4,[1,2,19,20]),(3,[1,2,19]),(2,[4]),(1,[1,2,17]),(0,[1,2])],QV [(1,(.cons 0 true (.cons 1 true (.cons 2 true (.cons 6 true (.cons 7 true (.cons 3 false (.cons 4 false (.cons 5 false (.cons 8 true (.cons 9 true (.cons 10 true .nil))))))))))))],QW [(0,[[2]]),(12,[[6]])]⟩
def NU:Info:=⟨QF [(7,[4]),(6,[1,7,8,9]),(5,[4]),(4,[1,7,8,9,15]),(3,[1,6,7,8,9]),(2,[1,7,8,9,10]),(1,[1,7,8,9]),(0,[0,1])],QV [],QW []⟩
def w2j:Info:=⟨QF [(6,[4]),(5,[4]),(4,[1,5,14]),(3,[1,5]),(2,[4]),(1,[1,2,8]),(0,[1,2])],QV [],QW [(0,[[2]])]⟩
def q6e:Info:=⟨QF [(6,[4]),(3,[4]),(5,[4]),(4,[0,1,8]),(2,[0,1,5,6]),(1,[0,1,5]),(0,[0,1])],QV [(6,(.cons 0 true (.cons 1 true (.cons 2 true (.cons 3 true (.cons 4 true (.cons 5 true (.cons 6 true (.cons 7 true (.cons 8 true (.cons 9 true (.cons 10 true (.cons 11 true (.cons 12 true (.cons 13 true (.cons 14 true (.cons 15 true (.cons 16 true .nil))))))))))))))))))],QW []⟩
def LB:Info:=⟨QF [(24,[2]),(23,[7,79,80]),(22,[2]),(21,[7,79,80,108]),(20,[7,8,79,80]),(19,[7,79,80,81]),(18,[7,79,80]),(17,[2]),(16,[7,77]),(15,[7]),(14,[1,26,27,28]),(13,[1,26,27,28,61,62,63]),(12,[2]),(11,[1,26,27,28,61,62,63,70]),(10,[1,6,26,27,28,61,62,63]),(9,[1,26,27,28,61,62,63,64]),(8,[1,26,27,28,61,62,63]),(7,[2]),(6,[1,4,26,27,28,59]),(5,[1,4,26,27,28]),(4,[1,26,27,28,29]),(3,[1,26,27,28]),(2,[2]),(1,[1,24]),(0,[1])],QV [],QW [(0,[[1]]),(5,[[4]]),(10,[[6]])]⟩
def z3s:Info:=⟨QF [(9,[2]),(8,[3,10,11,12]),(7,[3,10,11,12]),(6,[3,10,11,12]),(5,[3,4,5,10,11,12]),(4,[3,4,5,10,11,12]),(3,[3,10,11,12,13]),(2,[3,10,11,12]),(1,[1,3]),(0,[1])],QV [(5,(.cons 5 true (.cons 6 true (.cons 7 true (.cons 8 true (.cons 9 true (.cons 10 true (.cons 0 false (.cons 1 false (.cons 2 false (.cons 3 false (.fork 4 (.cons 11 true (.cons 12 true (.cons 13 true (.cons 14 true (.cons 15 true .nil))))) 11 (.cons 4 true (.cons 12 true (.cons 13 true (.cons 14 true (.cons 15 true .nil))))))))))))))))),(7,(.cons 5 true (.cons 6 true (.cons 7 true (.cons 8 true (.cons 9 true (.cons 10 true (.cons 0 false (.cons 1 false (.cons 2 false (.cons 3 false (.fork 4 (.cons 11 true (.cons 12 true (.cons 13 true (.cons 14 true (.cons 15 true .nil))))) 11 (.cons 4 true (.cons 12 true (.cons 13 true (.cons 14 true (.cons 15 true .nil)))))))))))))))))],QW [(0,[[1]]),(4,[[5]])]⟩
def VB:Info:=⟨QF [(1,[4]),(0,[0,1])],QV [],QW []⟩
def z6h:Info:=⟨QF [(8,[4]),(7,[5,46,47,48]),(6,[5,46,47,48]),(5,[5,7,46,47,48]),(4,[5,46,47,48,49]),(3,[5,46,47,48]),(2,[5]),(1,[5]),(0,[0,1])],QV [(1,(.cons 18 true (.cons 19 true (.cons 0 false (.cons 1 false (.cons 2 false (.cons 3 false (.cons 4 false (.cons 5 false (.cons 6 false (.cons 7 false (.cons 8 false (.cons 9 false (.cons 10 false (.cons 11 false (.cons 12 false (.cons 13 false (.cons 14 false (.cons 15 false (.cons 16 false (.cons 17 false (.cons 20 true (.cons 21 true (.cons 22 true (.cons 23 true .nil)))))))))))))))))))))))))],QW []⟩
def q7e:Info:=⟨QF [(10,[4]),(9,[0,1,5,12,13,14]),(8,[0,1,5,12,13,14]),(7,[0,1,5,7,12,13,14,43]),(6,[0,1,5,7,8,12,13,14]),(5,[0,1,5,7,12,13,14,20]),(4,[0,1,5,7,12,13,14]),(3,[0,1,5,12,13,14,15]),(2,[0,1,5,12,13,14]),(1,[0,1,5]),(0,[0,1])],QV [(6,(.cons 0 false (.cons 1 false (.cons 2 false (.cons 3 false (.cons 4 false (.cons 5 false (.cons 6 false (.cons 7 false (.cons 8 false (.cons 9 false (.cons 10 false (.cons 11 false (.cons 12 false (.cons 13 true (.cons 14 true .nil)))))))))))))))),(10,(.cons 0 false (.cons 1 false (.cons 5 false (.cons 6 false (.cons 7 false (.cons 8 false (.cons 9 false (.fork 2 (.cons 3 true (.cons 4 true (.cons 10 true (.cons 11 true .nil)))) 3 (.cons 2 true (.cons 4 true (.cons 10 true (.cons 11 true .nil)))))))))))))],QW [(4,[[7]]),(6,[[8]])]⟩
def FL:Info:=⟨QF [(7,[4]),(2,[4]),(4,[4]),(6,[4]),(5,[0,1,16]),(3,[0,1,8]),(1,[0,1,5]),(0,[0,1])],QV [(5,(.cons 0 true (.cons 1 true (.cons 2 true (.cons 3 true (.cons 4 true (.cons 5 true (.cons 6 true (.cons 7 true (.cons 8 true (.cons 9 true (.cons 10 true (.cons 11 true (.cons 12 true (.cons 13 true (.cons 14 true (.cons 15 true (.cons 16 true (.cons 17 true (.cons 18 true (.cons 19 true (.cons 20 true (.cons 21 true (.cons 22 true (.cons 23 true (.cons 24 true (.cons 25 true (.cons 26 true (.cons 27 true (.cons 28 true (.cons 29 true (.cons 30 true (.cons 31 true (.cons 32 true .nil)))))))))))))))))))))))))))))))))),(6,(.cons 0 true (.cons 1 true (.cons 2 true (.cons 3 true (.cons 4 true (.cons 5 true (.cons 6 true (.cons 7 true (.cons 8 true (.cons 9 true (.cons 10 true (.cons 11 true (.cons 12 true (.cons 13 true (.cons 14 true (.cons 15 true (.cons 16 true .nil))))))))))))))))))],QW []⟩
def DO:Info:=⟨QF [(2,[2]),(1,[0,3]),(0,[0])],QV [],QW []⟩
def BN:Info:=⟨QF [(1,[2]),(0,[1,2])],QV [],QW [(0,[[1]])]⟩
def FN:Info:=⟨QF [(8,[2]),(7,[1,2,3,4,10,11]),(6,[1,2,3,4,10,11]),(5,[1,2,3,4,5,10,11]),(4,[1,2,3,4,10,11,12]),(3,[1,2,3,4,10,11]),(2,[1,2,3,4]),(1,[1,2,3]),(0,[1,2])],QV [(6,(.cons 3 true (.cons 4 true (.cons 5 true (.cons 6 true (.cons 7 true (.cons 8 true (.cons 9 true (.cons 0 false (.cons 1 false (.cons 2 false (.cons 10 true (.cons 11 true (.cons 12 true (.cons 14 true (.cons 15 true (.cons 13 false (.cons 16 true (.cons 17 true .nil)))))))))))))))))))],QW [(0,[[1]]),(1,[[3]])]⟩
def MU:Info:=⟨QF [(11,[4]),(10,[3,5,9,10,11]),(9,[3,5,9,10,11]),(8,[3,5,8,9,10,11]),(7,[3,5,7,8,9,10,11]),(6,[3,5,7,8,9,10,11,21]),(5,[3,5,7,8,9,10,11]),(4,[3,5,7,9,10,11]),(3,[3,5,9,10,11,12]),(2,[3,5,9,10,11]),(1,[0,3,5]),(0,[0,3])],QV [(8,(.cons 0 true (.cons 1 true (.cons 2 true (.cons 4 false (.cons 5 false (.cons 6 false (.cons 3 true (.cons 8 false (.cons 7 true (.cons 9 true (.cons 10 true (.cons 11 true .nil)))))))))))))],QW [(0,[[3]]),(4,[[7]])]⟩
def q6c:Info:=⟨QF [(24,[2]),(23,[0,3,4,7,69,70]),(22,[0,3,4,7,69,70]),(21,[0,3,4,7,8,9,69,70,86,87]),(20,[0,3,4,7,8,9,69,70,86,87]),(19,[0,3,4,7,8,9,10,69,70,86,87,95]),(18,[0,3,4,7,8,9,10,69,70,86,87]),(17,[0,3,4,7,8,9,69,70,86,87,88]),(16,[0,3,4,7,8,9,69,70,86,87]),(15,[0,3,4,7,8,9,69,70]),(14,[0,3,4,7,8,69,70,84]),(13,[0,3,4,7,8,69,70]),(12,[0,3,4,7,69,70,71]),(11,[0,3,4,7,69,70]),(10,[0,3,4,7]),(9,[0,3,4,43,44,45]),(8,[0,3,4,43,44,45]),(7,[0,3,4,6,43,44,45,59]),(6,[0,3,4,6,43,44,45]),(5,[0,3,4,43,44,45,46]),(4,[0,3,4,43,44,45]),(3,[0,3,4]),(2,[0,3,4]),(1,[0,3]),(0,[0])],QV [(3,(.cons 0 true (.cons 1 true (.cons 2 true (.cons 3 true (.cons 5 true (.cons 6 true (.cons 7 true (.cons 8 true (.cons 9 true (.cons 10 true (.cons 11 true (.cons 12 true (.cons 13 true (.cons 4 false (.cons 14 true (.cons 15 true (.cons 16 true .nil)))))))))))))))))),(7,(.cons 0 true (.cons 1 true (.cons 2 true (.cons 3 true (.cons 4 true (.cons 5 true (.cons 6 true (.cons 7 true (.cons 8 true (.cons 9 true (.cons 10 true .nil))))))))))))],QW [(6,[[6]])]⟩
def MI:Info:=⟨QF [(1,[2]),(0,[0,2])],QV [],QW []⟩
def BM:Info:=⟨QF [(1,[2]),(0,[0,2])],QV [],QW []⟩
def NE:Info:=⟨QF [(1,[6]),(0,[0,4,5,6])],QV [],QW [(0,[[4],[5]])]⟩
def JS:Info:=⟨QF [(6,[4]),(4,[1,2,5]),(5,[1,2,5]),(3,[1,2,5,18]),(2,[1,2,5]),(1,[1,2]),(0,[1,2])],QV [],QW [(0,[[2]])]⟩
def z2r:Info:=⟨QF [(18,[2]),(17,[3,27,28,29]),(16,[2]),(15,[3,27,28,29,77]),(14,[3,5,27,28,29,62,63,64]),(13,[2]),(12,[3,5,27,28,29,62,63,64,71]),(11,[3,5,7,27,28,29,62,63,64]),(10,[3,5,27,28,29,62,63,64,65]),(9,[3,5,27,28,29,62,63,64]),(8,[2]),(7,[3,5,27,28,29,60]),(6,[3,5,27,28,29]),(5,[3,27,28,29,30]),(4,[3,27,28,29]),(3,[1,3]),(2,[2]),(1,[1,23]),(0,[1])],QV [],QW [(0,[[1]]),(6,[[5]]),(11,[[7]])]⟩
def x2d:Info:=⟨QF [(26,[2]),(25,[1,2,3,7,57,58,59]),(24,[1,2,3,7,9,57,58,59,76,77,78]),(23,[2]),(22,[1,2,3,7,9,12,57,58,59,76,77,78,88]),(21,[1,2,3,7,9,12,57,58,59,76,77,78]),(20,[1,2,3,7,9,57,58,59,76,77,78,79]),(19,[1,2,3,7,9,57,58,59,76,77,78]),(18,[2]),(17,[1,2,3,7,8,9,57,58,59,72]),(16,[1,2,3,7,8,9,10,57,58,59]),(15,[1,2,3,7,8,9,57,58,59]),(14,[1,2,3,7,57,58,59,60]),(13,[1,2,3,7,57,58,59]),(12,[1,2,3,7]),(11,[2]),(10,[1,2,3,52]),(9,[1,2,3,6]),(8,[1,2,3,18,19,20]),(7,[1,2,3,18,19,20]),(6,[1,2,3,5,18,19,20]),(5,[1,2,3,18,19,20,21]),(4,[1,2,3,18,19,20]),(3,[1,2,3]),(2,[2]),(1,[1,2,15]),(0,[1,2])],QV [],QW [(0,[[1]]),(6,[[5]]),(15,[[9]]),(21,[[12]])]⟩
def x2r:Info:=⟨QF [(9,[2]),(8,[1,2,14,15,16]),(7,[2]),(6,[1,2,4,14,15,16,30]),(5,[1,2,4,14,15,16]),(4,[1,2,14,15,16,17]),(3,[1,2,14,15,16]),(2,[2]),(1,[1,2,8]),(0,[1,2])],QV [],QW [(0,[[1]]),(5,[[4]])]⟩
def x5n:Info:=⟨QF [(20,[2]),(19,[2,3,16,17,18]),(18,[2]),(17,[2,3,16,17,18,60]),(16,[2,3,7,16,17,18]),(15,[2,3,5,6,16,17,18,25,26,27]),(14,[2]),(13,[2,3,5,6,9,16,17,18,25,26,27,46]),(12,[2,3,5,6,7,9,16,17,18,25,26,27]),(11,[2,3,5,6,9,16,17,18,25,26,27]),(10,[2,3,5,6,16,17,18,25,26,27,28]),(9,[2,3,5,6,16,17,18,25,26,27]),(8,[2,3,4,5,6,16,17,18]),(7,[2,3,4,5,6,16,17,18]),(6,[2,3,4,5,16,17,18]),(5,[2,3,16,17,18,19]),(4,[2,3,16,17,18]),(3,[2]),(2,[1,2,3,13]),(1,[1,2,3]),(0,[1,2])],QV [],QW [(0,[[1]]),(6,[[5]]),(11,[[9]])]⟩
def x2v:Info:=⟨QF [(15,[2]),(14,[2,3,33,34,35]),(13,[2]),(12,[2,3,7,33,34,35,53]),(11,[2,3,7,33,34,35]),(10,[2,3,33,34,35,36]),(9,[2,3,33,34,35]),(8,[1,2,3,15,16,17]),(7,[1,2,3,15,16,17]),(6,[1,2,3,5,15,16,17]),(5,[1,2,3,15,16,17,18]),(4,[1,2,3,15,16,17]),(3,[1,2,3]),(2,[2]),(1,[1,2,11]),(0,[1,2])],QV [(7,(.cons 3 true (.cons 4 true (.cons 5 true (.cons 0 false (.cons 1 false (.cons 2 false (.cons 6 true (.cons 7 true .nil)))))))))],QW [(0,[[1]]),(6,[[5]]),(11,[[7]])]⟩
def x3w:Info:=⟨QF [(2,[2]),(1,[0]),(0,[0])],QV [],QW []⟩
def q3r:Info:=⟨QF [(10,[4]),(3,[4]),(5,[4]),(7,[4]),(9,[4]),(8,[0,3,20]),(6,[0,3,6,17]),(4,[0,3,6,12]),(2,[0,3,6,7]),(1,[0,3,6]),(0,[0,3])],QV [],QW [(0,[[3]])]⟩
def q3j:Info:=⟨QF [(14,[4]),(13,[0,1,5,6,27,28,29]),(12,[0,1,5,6,27,28,29,54,55,56]),(11,[0,1,5,6,27,28,29,54,55,56]),(10,[0,1,5,6,10,27,28,29,54,55,56,69]),(9,[0,1,5,6,10,27,28,29,54,55,56]),(8,[0,1,5,6,27,28,29,54,55,56,57]),(7,[0,1,5,6,27,28,29,54,55,56]),(6,[0,1,5,6,8,27,28,29,44]),(5,[0,1,5,6,8,27,28,29]),(4,[0,1,5,6,27,28,29,30]),(3,[0,1,5,6,27,28,29]),(2,[0,1,5,6]),(1,[0,1,5]),(0,[0,1])],QV [(6,(.cons 0 true (.cons 1 true (.cons 2 true (.cons 3 true (.cons 4 true (.cons 5 true (.cons 6 true (.cons 7 true (.cons 8 true (.cons 9 true (.cons 10 true (.cons 11 true .nil))))))))))))),(7,(.cons 0 true (.cons 1 true (.cons 2 true (.cons 3 true (.cons 4 true (.cons 5 true (.cons 6 true (.cons 7 true (.cons 8 true (.cons 9 true (.cons 10 true (.cons 11 true .nil)))))))))))))],QW [(2,[[6]]),(5,[[8]])]⟩
def UY:Info:=⟨QF [(9,[4]),(8,[0,1,12,13]),(7,[4]),(6,[0,1,12,13,24]),(5,[0,1,5,12,13]),(4,[0,1,12,13,14]),(3,[0,1,12,13]),(2,[4]),(1,[0,1,10]),(0,[0,1])],QV [(6,(.cons 0 true (.cons 1 true (.cons 2 true (.cons 3 true (.cons 4 true (.cons 5 true (.cons 6 true (.cons 7 true (.cons 8 true .nil))))))))))],QW []⟩
def q3g:Info:=⟨QF [(13,[4]),(12,[0,3,5,22,23,24]),(11,[0,3,5,22,23,24]),(10,[0,3,5,7,22,23,24]),(9,[0,3,5,7,22,23,24,29]),(8,[0,3,5,7,22,23,24]),(7,[0,3,5,22,23,24,25]),(6,[0,3,5,22,23,24]),(5,[4]),(4,[0,3,5,19]),(3,[0,3,5]),(2,[0,3,5,13]),(1,[0,3,5]),(0,[0,3])],QV [(13,(.cons 5 true (.cons 6 true (.cons 0 false (.cons 1 false (.cons 2 false (.cons 3 false (.cons 4 false (.cons 7 true (.cons 8 true (.cons 9 true (.cons 10 true (.cons 11 true .nil)))))))))))))],QW [(0,[[3]]),(8,[[7]])]⟩
def q4t:Info:=⟨QF [(9,[4]),(8,[0,1,5,6,27,28,29]),(7,[0,1,5,6,27,28,29]),(6,[0,1,5,6,8,27,28,29,37]),(5,[0,1,5,6,8,27,28,29]),(4,[0,1,5,6,27,28,29,30]),(3,[0,1,5,6,27,28,29]),(2,[0,1,5,6]),(1,[0,1,5]),(0,[0,1])],QV [],QW []⟩
def WQ:Info:=⟨QF [(7,[4]),(6,[0,1,7,8]),(5,[4]),(4,[0,1,5,7,8,16]),(3,[0,1,5,7,8]),(2,[0,1,7,8,9]),(1,[0,1,7,8]),(0,[0,1])],QV [],QW []⟩
def PD:Info:=⟨QF [(1,[3]),(0,[1,2])],QV [],QW [(0,[[2]])]⟩
def YW:Info:=⟨QF [(8,[10]),(3,[0,1,2,3,4,11]),(7,[0,1,2,3,4,11]),(6,[0,1,2,3,4,11]),(5,[0,1,2,3,4,11,35]),(4,[0,1,2,3,4,11]),(2,[0,1,2,3,4,11,20]),(1,[0,1,2,3,4,11]),(0,[0,1,2,3,4])],QV [(6,(.cons 0 true (.cons 1 true (.cons 2 true (.cons 3 true (.cons 4 true (.cons 5 true (.cons 6 true (.cons 7 true (.cons 8 true (.cons 9 true (.cons 10 true (.cons 11 true (.cons 12 true (.cons 13 true (.cons 14 true .nil)))))))))))))))),(7,(.cons 0 true (.cons 1 true (.cons 2 true (.cons 3 true (.cons 4 true (.cons 5 true (.cons 6 true (.cons 7 true (.cons 8 true (.cons 9 true (.cons 10 true (.cons 11 true (.cons 12 true (.cons 13 true (.cons 14 true .nil))))))))))))))))],QW []⟩
def VM:Info:=⟨QF [(1,[2]),(0,[1])],QV [],QW [(0,[[1]])]⟩
def PZ:Info:=⟨QF [(8,[4]),(7,[1,2,15,16]),(6,[1,2,15,16]),(5,[1,2,5,15,16]),(4,[1,2,15,16,17]),(3,[1,2,15,16]),(2,[1,2]),(1,[1,2,8]),(0,[1,2])],QV [],QW [(0,[[2]])]⟩
def x8a:Info:=⟨QF [(7,[2]),(2,[2]),(4,[2]),(6,[2]),(5,[17]),(3,[0,10]),(1,[0,3]),(0,[0])],QV [],QW []⟩
def z2b:Info:=⟨QF [(3,[2]),(2,[2]),(1,[0,16]),(0,[0])],QV [],QW []⟩
def BV:Info:=⟨QF [(7,[2]),(6,[5,6,7]),(5,[2]),(4,[5,6,7,13]),(3,[4,5,6,7]),(2,[5,6,7,8]),(1,[5,6,7]),(0,[0])],QV [],QW []⟩
def ND:Info:=⟨QF [(8,[2]),(5,[0,3]),(7,[2]),(6,[0,3,34]),(4,[0,3,20]),(3,[0,3]),(2,[2]),(1,[0,16]),(0,[0])],QV [],QW []⟩
def LE:Info:=⟨QF [(16,[2]),(15,[1,143,144,145]),(14,[2]),(13,[1,143,144,145,151]),(12,[1,7,143,144,145]),(11,[1,143,144,145,146]),(10,[1,143,144,145]),(9,[2]),(8,[1,141]),(7,[2]),(6,[1,5,117]),(5,[2]),(4,[1,4,5,92]),(3,[1,3,4,5]),(2,[1,3,4]),(1,[1,3]),(0,[1])],QV [],QW [(0,[[1]]),(12,[[7]])]⟩
def q3y:Info:=⟨QF [(15,[0,1,5,11,12,13]),(14,[0,1,5,11,12,13]),(13,[0,1,5,7,10,11,12,13]),(12,[0,1,5,7,10,11,12,13]),(11,[0,1,5,7,8,10,11,12,13,57]),(10,[0,1,5,7,8,10,11,12,13]),(9,[0,1,5,7,8,9,11,12,13]),(8,[0,1,5,7,8,9,11,12,13]),(7,[0,1,5,7,8,9,11,12,13,31]),(6,[0,1,5,6,7,8,9,11,12,13]),(5,[0,1,5,6,7,8,9,11,12,13]),(4,[0,1,5,6,7,8,11,12,13]),(3,[0,1,5,6,7,11,12,13]),(2,[0,1,5,11,12,13,14]),(1,[0,1,5,11,12,13]),(0,[0,1,5])],QV [(9,(.cons 5 true (.cons 0 false (.cons 1 false (.cons 2 false (.cons 3 false (.fork 4 (.cons 6 true (.cons 7 true (.cons 8 true (.cons 9 true (.cons 10 true .nil))))) 6 (.cons 4 true (.cons 7 true (.cons 8 true (.cons 9 true (.cons 10 true .nil))))))))))))],QW [(0,[[5]]),(3,[[7]])]⟩
def UK:Info:=⟨QF [(7,[4]),(6,[0,1,7,8]),(5,[4]),(4,[0,1,5,7,8,16]),(3,[0,1,5,7,8]),(2,[0,1,7,8,9]),(1,[0,1,7,8]),(0,[0,1])],QV [],QW []⟩
def MY:Info:=⟨QF [(11,[4]),(10,[0,5,17,18,19]),(9,[0,5,7,17,18,19,25,26,27]),(8,[0,5,7,17,18,19,25,26,27]),(7,[0,5,7,9,17,18,19,25,26,27]),(6,[0,5,7,17,18,19,25,26,27,28]),(5,[0,5,7,17,18,19,25,26,27]),(4,[0,5,7,17,18,19]),(3,[0,5,17,18,19,20]),(2,[0,5,17,18,19]),(1,[0,1,5]),(0,[0,1])],QV [],QW [(4,[[7]])]⟩
def FY:Info:=⟨QF [(1,[4]),(0,[0,1])],QV [(1,(.cons 4 true (.cons 5 true (.cons 0 false (.cons 1 false (.cons 2 false (.cons 3 false (.cons 6 true (.cons 7 true (.cons 8 true .nil))))))))))],QW []⟩
def NZ:Info:=⟨QF [(13,[4]),(12,[5]),(11,[0,5,6,17,18,19]),(10,[0,5,6,17,18,19]),(9,[0,5,6,8,17,18,19]),(8,[0,5,6,8,17,18,19,32]),(7,[0,5,6,8,17,18,19]),(6,[0,5,6,17,18,19,20]),(5,[0,5,6,17,18,19]),(4,[0,1,5,6]),(3,[0,1,5]),(2,[4]),(1,[0,1,10]),(0,[0,1])],QV [],QW []⟩
def YC:Info:=⟨QF [(1,[4]),(0,[0,1])],QV [],QW []⟩
def HC:Info:=⟨QF [(7,[4]),(6,[0,5,8,9,10]),(5,[0,5,8,9,10]),(4,[0,5,7,8,9,10]),(3,[0,5,8,9,10,11]),(2,[0,5,8,9,10]),(1,[0,1,5]),(0,[0,1])],QV [(5,(.cons 1 true (.cons 2 true (.cons 3 true (.cons 0 false (.cons 5 false (.cons 6 false (.cons 7 false (.cons 4 true (.cons 8 true (.cons 9 true (.cons 10 true (.cons 11 true (.cons 12 true .nil))))))))))))))],QW [(4,[[7]])]⟩
def MV:Info:=⟨QF [(3,[4]),(2,[4]),(1,[0,1,19]),(0,[0,1])],QV [(1,(.cons 0 true (.cons 1 true (.cons 2 true (.cons 3 true (.cons 4 true (.cons 5 true (.cons 6 true (.cons 7 true (.cons 8 true (.cons 9 true (.cons 10 true (.cons 11 true (.cons 12 true (.cons 13 true (.cons 14 true .nil))))))))))))))))],QW []⟩
def HD:Info:=⟨QF [(7,[2]),(6,[2,3,24,25,26]),(5,[2,3,24,25,26]),(4,[2,3,5,24,25,26]),(3,[2,3,24,25,26,27]),(2,[2,3,24,25,26]),(1,[1,2,3]),(0,[1,2])],QV [(1,(.cons 0 false (.cons 1 false (.cons 2 false (.cons 3 false (.cons 4 false (.cons 5 false (.cons 7 false (.cons 8 false (.cons 9 false (.cons 10 false (.cons 11 false (.cons 12 false (.cons 14 false (.cons 15 false (.fork 6 (.fork 13 (.cons 16 false (.cons 17 true (.cons 18 true .nil))) 17 (.cons 13 true (.cons 16 true (.cons 18 true .nil)))) 17 (.cons 6 true (.cons 13 true (.cons 16 true (.cons 18 true .nil)))))))))))))))))))),(5,(.cons 6 true (.cons 7 true (.cons 0 false (.cons 2 false (.cons 3 false (.cons 4 false (.cons 5 false (.fork 1 (.cons 8 true (.cons 9 true (.cons 10 true (.cons 11 true (.cons 12 true (.cons 13 true .nil)))))) 8 (.cons 9 true (.fork 1 (.cons 10 true (.cons 11 true (.cons 12 true (.cons 13 true .nil)))) 10 (.cons 1 true (.cons 11 true (.cons 12 true (.cons 13 true .nil)))))))))))))))],QW [(0,[[1]]),(4,[[5]])]⟩
def GB:Info:=⟨QF [(12,[4,5]),(11,[1,6,10,11,12]),(10,[1,6,10,11,12]),(9,[1,6,9,10,11,12]),(8,[1,6,8,9,10,11,12]),(7,[1,6,8,9,10,11,12]),(6,[1,6,8,9,10,11,12]),(5,[1,6,8,10,11,12]),(4,[1,6,8,10,11,12]),(3,[1,6,10,11,12,13]),(2,[1,6,10,11,12]),(1,[0,1,6]),(0,[0,1])],QV [],QW [(4,[[8]])]⟩
def q7a:Info:=⟨QF [(1,[2]),(0,[0])],QV [(1,(.cons 0 true (.cons 2 false (.cons 3 false (.cons 4 false (.cons 5 false (.cons 1 true (.cons 6 true (.cons 7 true (.cons 8 true .nil))))))))))],QW []⟩
def BE:Info:=⟨QF [(18,[2]),(8,[0,3,4,5,6]),(17,[0,3,4,5,6,8,60,61,62]),(16,[0,3,4,5,6,8,60,61,62]),(15,[0,3,4,5,6,8,10,60,61,62]),(14,[0,3,4,5,6,8,60,61,62,63]),(13,[0,3,4,5,6,8,60,61,62]),(12,[0,3,4,5,6,7,8]),(11,[0,3,4,5,6,7]),(10,[0,3,4,5,6]),(9,[0,3,4,5,6,40]),(7,[0,3,4,5,6,31]),(6,[0,3,4,5,6]),(5,[0,3,4,5]),(4,[0,3,4]),(3,[0,3]),(2,[2]),(1,[0,12]),(0,[0])],QV [(11,(.cons 5 true (.cons 6 true (.cons 7 true (.cons 8 true (.cons 0 false (.cons 1 false (.cons 2 false (.cons 3 false (.cons 4 false (.cons 9 true (.cons 10 true (.cons 11 true .nil)))))))))))))],QW []⟩
def z2a:Info:=⟨QF [(2,[4]),(1,[6]),(0,[0,1])],QV [],QW []⟩
def x1j:Info:=⟨QF [(8,[2]),(7,[3,6,7,8]),(6,[2]),(5,[3,5,6,7,8,14]),(4,[3,5,6,7,8]),(3,[3,6,7,8,9]),(2,[3,6,7,8]),(1,[0,3]),(0,[0])],QV [],QW []⟩
def LO:Info:=⟨QF [(13,[4]),(12,[4]),(11,[19]),(10,[4]),(9,[0,1,16]),(8,[4]),(7,[0,1,13]),(6,[4]),(5,[4]),(4,[12]),(3,[0,1,6,11]),(2,[0,1,5,6]),(1,[0,1,5]),(0,[0,1])],QV [],QW []⟩
def x9t:Info:=⟨QF [(3,[2]),(2,[2]),(1,[0,4]),(0,[0])],QV [],QW []⟩
def q6q:Info:=⟨QF [(9,[6,7]),(8,[6,7]),(7,[37]),(6,[0,1,2,12,13,14]),(5,[6,7]),(4,[0,1,2,9,12,13,14,22]),(3,[0,1,2,9,12,13,14]),(2,[0,1,2,12,13,14,15]),(1,[0,1,2,12,13,14]),(0,[0,1,2])],QV [],QW [(3,[[9]])]⟩
def x5c:Info:=⟨QF [(7,[2]),(6,[5,6,7]),(5,[2]),(4,[5,6,7,13]),(3,[4,5,6,7]),(2,[5,6,7,8]),(1,[5,6,7]),(0,[0])],QV [],QW []⟩
def JZ:Info:=⟨QF [(12,[6]),(11,[0,2,16,17,18]),(10,[6]),(9,[0,2,16,17,18,69]),(8,[6]),(7,[0,2,8,16,17,18,53]),(6,[0,2,8,16,17,18]),(5,[0,2,8,16,17,18]),(4,[0,2,16,17,18,19]),(3,[0,2,16,17,18]),(2,[6]),(1,[0,1,2,15]),(0,[0,1,2])],QV [(7,(.cons 0 true (.cons 1 true (.cons 2 true (.cons 3 true (.cons 4 true (.cons 5 true (.cons 6 true (.cons 7 true (.cons 8 true (.cons 9 true (.cons 10 true (.cons 11 true (.cons 12 true (.cons 13 true (.cons 14 true (.cons 15 true (.cons 16 true (.cons 17 true (.cons 18 true (.cons 19 true (.cons 20 true (.cons 21 true (.cons 22 true (.cons 23 true (.cons 24 true .nil))))))))))))))))))))))))))],QW [(5,[[8]])]⟩
def x3b:Info:=⟨QF [(7,[2]),(6,[0,5,6,7]),(5,[2]),(4,[0,5,6,7,16]),(3,[0,3,4,5,6,7]),(2,[0,5,6,7,8]),(1,[0,5,6,7]),(0,[0])],QV [],QW []⟩
def x7a:Info:=⟨QF [(7,[2]),(6,[1,3,7,8,9]),(5,[1,3,7,8,9]),(4,[1,3,5,7,8,9]),(3,[1,3,7,8,9,10]),(2,[1,3,7,8,9]),(1,[1,3]),(0,[1])],QV [],QW [(0,[[1]]),(4,[[5]])]⟩
def WU:Info:=⟨QF [(1,[4]),(0,[0,1])],QV [],QW []⟩
def q4l:Info:=⟨QF [(1,[3]),(0,[0,1])],QV [],QW []⟩
def q5x:Info:=⟨QF [(1,[4]),(0,[0,1])],QV [(1,(.cons 0 true (.cons 1 true (.cons 2 true (.cons 3 true (.cons 4 true (.cons 5 true (.cons 6 true (.cons 7 true (.cons 8 true (.cons 9 true (.cons 10 true (.cons 11 true (.cons 12 true (.cons 13 true (.cons 14 true (.cons 15 true (.cons 16 true (.cons 17 true (.cons 18 true (.cons 19 true (.cons 20 true (.cons 21 true .nil)))))))))))))))))))))))],QW []⟩
def x3y:Info:=⟨QF [(7,[8]),(6,[2,4,5,7,12,13,14]),(5,[8]),(4,[2,4,5,7,12,13,14,22]),(3,[2,4,5,7,10,12,13,14]),(2,[2,4,5,7,12,13,14,15]),(1,[2,4,5,7,12,13,14]),(0,[2,4,5,7])],QV [],QW [(0,[[4],[5],[7]])]⟩
def x5d:Info:=⟨QF [(9,[4]),(8,[3,11,12,13]),(7,[4]),(6,[3,6,11,12,13,21]),(5,[3,6,11,12,13]),(4,[3,11,12,13,14]),(3,[3,11,12,13]),(2,[4]),(1,[2,3,9]),(0,[2,3])],QV [],QW [(0,[[2],[3]]),(5,[[6]])]⟩
def q2l:Info:=⟨QF [(3,[2]),(2,[2]),(1,[1,6]),(0,[1])],QV [],QW [(0,[[1]])]⟩
def x7n:Info:=⟨QF [(8,[4,5]),(7,[0,8,9,10]),(6,[0,8,9,10]),(5,[4,5]),(4,[0,7,8,9,10,16]),(3,[0,7,8,9,10]),(2,[0,8,9,10,11]),(1,[0,8,9,10]),(0,[0,1])],QV [],QW []⟩
def x5w:Info:=⟨QF [(8,[4]),(4,[4]),(7,[4]),(6,[6]),(5,[0,3,16]),(3,[0,3,9,10]),(2,[0,3,9,10]),(1,[0,3,9]),(0,[0,3])],QV [],QW [(0,[[3]])]⟩
def q5o:Info:=⟨QF [(20,[4]),(19,[6]),(18,[2,5,6,21,22,23]),(17,[2,5,6,21,22,23,31,32,33]),(16,[2,5,6,21,22,23,31,32,33,39,40,41]),(15,[2,5,6,21,22,23,31,32,33,39,40,41]),(14,[2,5,6,12,21,22,23,31,32,33,39,40,41,48]),(13,[2,5,6,12,21,22,23,31,32,33,39,40,41]),(12,[2,5,6,21,22,23,31,32,33,39,40,41,42]),(11,[2,5,6,21,22,23,31,32,33,39,40,41]),(10,[2,5,6,10,21,22,23,31,32,33]),(9,[2,5,6,21,22,23,31,32,33,34]),(8,[2,5,6,21,22,23,31,32,33]),(7,[2,5,6,8,21,22,23]),(6,[2,5,6,21,22,23,24]),(5,[2,5,6,21,22,23]),(4,[1,2,5,6]),(3,[1,2,5]),(2,[4]),(1,[1,2,16]),(0,[1,2])],QV [],QW [(0,[[2]]),(10,[[10]])]⟩
def q7s:Info:=⟨QF [(10,[4]),(9,[1,2,5,9,10,11]),(8,[1,2,5,9,10,11]),(7,[4]),(6,[1,2,5,7,9,10,11,34]),(5,[1,2,5,7,9,10,11,17]),(4,[1,2,5,7,9,10,11]),(3,[1,2,5,9,10,11,12]),(2,[1,2,5,9,10,11]),(1,[1,2,5]),(0,[1,2])],QV [],QW [(0,[[2]]),(4,[[7]])]⟩
def MD:Info:=⟨QF [(17,[4]),(16,[0,5,70,71,72]),(15,[0,5,70,71,72]),(14,[0,5,10,70,71,72,78]),(13,[0,5,10,70,71,72]),(12,[0,5,70,71,72,73]),(11,[0,5,70,71,72]),(10,[0,5,6,23,24,25]),(9,[0,5,6,23,24,25]),(8,[0,5,6,8,23,24,25,57]),(7,[0,5,6,7,8,23,24,25]),(6,[0,5,6,23,24,25,26]),(5,[0,5,6,23,24,25]),(4,[0,3,5,6]),(3,[0,3,5]),(2,[0,3,5,13]),(1,[0,3,5]),(0,[0,3])],QV [(8,(.cons 0 true (.cons 1 true (.cons 2 true (.cons 3 true (.cons 4 true (.cons 5 true (.cons 6 true (.cons 7 true (.cons 8 true (.cons 9 true (.cons 10 true (.cons 11 true (.cons 12 true (.cons 13 true (.cons 14 true (.cons 15 true (.cons 16 true (.cons 17 true (.cons 18 true (.cons 19 true (.cons 20 true (.cons 21 true (.cons 22 true (.cons 23 true (.cons 24 true (.cons 25 true (.cons 26 true (.cons 27 true .nil)))))))))))))))))))))))))))))],QW [(0,[[3]]),(7,[[8]])]⟩
def q6u:Info:=⟨QF [(1,[4]),(0,[0,1])],QV [(1,(.cons 4 true (.cons 5 true (.cons 0 false (.cons 1 false (.cons 2 false (.cons 3 false (.cons 6 true (.cons 7 true (.cons 8 true (.cons 9 true .nil)))))))))))],QW []⟩
def LF:Info:=⟨QF [(1,[4]),(0,[0,1])],QV [],QW []⟩
def ZE:Info:=⟨QF [(1,[4]),(0,[0,3])],QV [],QW [(0,[[3]])]⟩
def q2j:Info:=⟨QF [(3,[2]),(2,[2]),(1,[1,5]),(0,[1])],QV [],QW [(0,[[1]])]⟩
def MZ:Info:=⟨QF [(1,[4]),(0,[0,3])],QV [(1,(.cons 0 true (.cons 1 true (.cons 2 true (.cons 3 true (.cons 4 true (.cons 5 true (.cons 6 true (.cons 7 true .nil)))))))))],QW [(0,[[3]])]⟩
def x2g:Info:=⟨QF [(7,[2]),(6,[3,14,15,16]),(5,[3,14,15,16]),(4,[3,5,14,15,16]),(3,[3,14,15,16,17]),(2,[3,14,15,16]),(1,[0,3]),(0,[0])],QV [(5,(.cons 8 true (.cons 9 true (.cons 0 false (.cons 1 false (.cons 2 false (.cons 3 false (.cons 4 false (.cons 5 false (.cons 6 false (.cons 7 false (.cons 10 true (.cons 11 true (.cons 12 true (.cons 13 true .nil)))))))))))))))],QW [(4,[[5]])]⟩
def UJ:Info:=⟨QF [(3,[2]),(2,[2]),(1,[0,4]),(0,[0])],QV [],QW []⟩
def q0l:Info:=⟨QF [(22,[8]),(21,[0,1,2,3,9,10,11,87,88,89]),(20,[0,1,2,3,9,10,11,87,88,89]),(19,[0,1,2,3,9,10,11,15,87,88,89]),(18,[0,1,2,3,9,10,11,15,87,88,89,97]),(17,[0,1,2,3,9,10,11,15,87,88,89]),(16,[0,1,2,3,9,10,11,87,88,89,90]),(15,[0,1,2,3,9,10,11,87,88,89]),(14,[0,1,2,3,9,10,11,12,83]),(13,[8]),(12,[0,1,2,3,9,10,11,12,13,73]),(11,[0,1,2,3,9,10,11,12,13]),(10,[0,1,2,3,9,10,11,12,60]),(9,[8]),(8,[0,1,2,3,9,10,11,58]),(7,[0,1,2,3,9,10,11,12,49]),(6,[0,1,2,3,9,10,11,12]),(5,[0,1,2,3,9,10,11,12]),(4,[0,1,2,3,9,10,11,31]),(3,[0,1,2,3,9,10,11]),(2,[0,1,2,3,9,10]),(1,[0,1,2,3,9]),(0,[0,1,2,3])],QV [],QW []⟩
def YF:Info:=⟨QF [(10,[4]),(6,[1,2,5,6]),(9,[1,2,5,6]),(8,[1,2,5,6,7,32]),(7,[1,2,5,6,7]),(5,[1,2,5,6,19]),(4,[1,2,5,6]),(3,[1,2,5]),(2,[4]),(1,[1,2,9]),(0,[1,2])],QV [],QW [(0,[[2]])]⟩
def PY:Info:=⟨QF [(9,[2]),(8,[1,48,49]),(7,[2]),(6,[1,48,49,58]),(5,[1,3,48,49]),(4,[1,48,49,50]),(3,[1,48,49]),(2,[2]),(1,[1,45]),(0,[1])],QV [(1,(.cons 0 true (.cons 1 true (.cons 3 false (.cons 4 false (.cons 5 false (.cons 2 true (.cons 6 true (.cons 7 true (.cons 8 true (.cons 9 true (.cons 10 true (.cons 11 true (.cons 12 true (.cons 13 true (.cons 14 true (.cons 15 true (.cons 16 true (.cons 17 true (.cons 18 true (.cons 19 true (.cons 20 true (.cons 21 true (.cons 22 true (.cons 23 true (.cons 24 true (.cons 25 true (.cons 26 true (.cons 27 true (.cons 28 true (.cons 29 true (.cons 30 true (.cons 31 true (.cons 32 true (.cons 33 true (.cons 34 true (.cons 35 true (.cons 36 true (.cons 37 true (.cons 38 true (.cons 39 true (.cons 40 true (.cons 41 true .nil)))))))))))))))))))))))))))))))))))))))))))],QW [(0,[[1]])]⟩
def FP:Info:=⟨QF [(7,[4]),(6,[0,1,7,8,9]),(5,[4]),(4,[0,1,7,8,9,15]),(3,[0,1,6,7,8,9]),(2,[0,1,7,8,9,10]),(1,[0,1,7,8,9]),(0,[0,1])],QV [],QW []⟩
def x5j:Info:=⟨QF [(1,[2]),(0,[0])],QV [],QW []⟩
def z7q:Info:=⟨QF [(3,[4]),(2,[0,1]),(1,[0,1,20]),(0,[0,1])],QV [],QW []⟩
def z2t:Info:=⟨QF [(16,[2]),(15,[2]),(14,[4]),(13,[3,4]),(12,[3,4]),(11,[3,4]),(10,[3,4]),(9,[3,4]),(8,[3,4]),(7,[3,4]),(6,[3,4]),(5,[3,4]),(4,[3,4]),(3,[3,4]),(2,[3,4]),(1,[3]),(0,[0])],QV [],QW []⟩
def BJ:Info:=⟨QF [(1,[2]),(0,[0])],QV [],QW []⟩
def DA:Info:=⟨QF [(1,[2]),(0,[0])],QV [],QW []⟩
def BA:Info:=⟨QF [(7,[2]),(6,[0,5,6,7]),(5,[2]),(4,[0,5,6,7,13]),(3,[0,4,5,6,7]),(2,[0,5,6,7,8]),(1,[0,5,6,7]),(0,[0])],QV [],QW []⟩
def PL:Info:=⟨QF [(1,[2]),(0,[1])],QV [],QW [(0,[[1]])]⟩
def MR:Info:=⟨QF [(3,[2]),(2,[2]),(1,[1,4]),(0,[1])],QV [],QW [(0,[[1]])]⟩
def x7m:Info:=⟨QF [(12,[2]),(11,[3,21,22,23]),(10,[3,21,22,23]),(9,[3,7,21,22,23]),(8,[3,21,22,23,24]),(7,[3,21,22,23]),(6,[1,3,9,10,11]),(5,[1,3,9,10,11]),(4,[1,3,5,9,10,11]),(3,[1,3,9,10,11,12]),(2,[1,3,9,10,11]),(1,[1,3]),(0,[1])],QV [],QW [(0,[[1]]),(4,[[5]]),(9,[[7]])]⟩
def q1s:Info:=⟨QF [(15,[4]),(3,[4]),(5,[4]),(7,[4]),(9,[4]),(11,[4]),(14,[4]),(13,[5]),(12,[0,3,58]),(10,[0,3,9,55]),(8,[0,3,9,50]),(6,[0,3,9,37]),(4,[0,3,9,25]),(2,[0,3,9,10]),(1,[0,3,9]),(0,[0,3])],QV [(3,(.cons 0 true (.cons 1 true (.cons 2 true (.cons 3 true (.cons 4 true (.cons 6 false (.cons 7 false (.cons 8 false (.cons 9 false (.cons 10 false (.cons 5 true (.cons 11 true (.cons 12 true (.cons 13 true .nil))))))))))))))),(5,(.cons 0 true (.cons 1 true (.cons 2 true (.cons 3 true (.cons 4 true (.cons 5 true (.cons 7 false (.cons 8 false (.cons 6 true (.cons 9 true (.cons 10 true .nil)))))))))))),(7,(.cons 0 true (.cons 1 true (.cons 2 true (.cons 3 true (.cons 4 true (.cons 5 true (.cons 6 true (.cons 7 true (.cons 8 true (.cons 9 true (.cons 10 true (.cons 11 true .nil)))))))))))))],QW [(0,[[3]])]⟩
def x8x:Info:=⟨QF [(2,[2]),(1,[0]),(0,[0])],QV [],QW []⟩
def x7c:Info:=⟨QF [(9,[4]),(8,[5,20,21,22]),(7,[5,20,21,22]),(6,[5,7,20,21,22]),(5,[5,20,21,22,23]),(4,[5,20,21,22]),(3,[1,5]),(2,[4]),(1,[0,1,13]),(0,[0,1])],QV [(3,(.cons 0 false (.cons 2 false (.fork 1 (.cons 3 true (.cons 4 true (.cons 5 true (.cons 6 true .nil)))) 3 (.cons 1 true (.cons 4 true (.cons 5 true (.cons 6 true .nil))))))))],QW [(3,[[19]]),(6,[[7]])]⟩
def KD:Info:=⟨QF [(1,[4]),(0,[0,1])],QV [],QW []⟩
def x6m:Info:=⟨QF [(11,[6]),(3,[0,1,2,7]),(10,[0,1,2,7,22,23,24]),(9,[0,1,2,7,22,23,24]),(8,[0,1,2,7,9,22,23,24]),(7,[0,1,2,7,9,22,23,24,32]),(6,[0,1,2,7,9,22,23,24]),(5,[0,1,2,7,22,23,24,25]),(4,[0,1,2,7,22,23,24]),(2,[0,1,2,7,13]),(1,[0,1,2,7]),(0,[0,1,2])],QV [],QW []⟩
def q7r:Info:=⟨QF [(8,[2]),(7,[3,6,7,8]),(6,[3,6,7,8]),(5,[3,4,6,7,8,13]),(4,[3,4,5,6,7,8]),(3,[3,6,7,8,9]),(2,[3,6,7,8]),(1,[0,3]),(0,[0])],QV [],QW []⟩
def GJ:Info:=⟨QF [(7,[4]),(6,[0,1,7,8]),(5,[4]),(4,[0,1,5,7,8,16]),(3,[0,1,5,7,8]),(2,[0,1,7,8,9]),(1,[0,1,7,8]),(0,[0,1])],QV [],QW []⟩
def NI:Info:=⟨QF [(1,[4]),(0,[0,1])],QV [],QW []⟩
def q1v:Info:=⟨QF [(12,[2]),(11,[0,3,9,10,11]),(10,[0,3,9,10,11,15,16,17]),(9,[0,3,9,10,11,15,16,17]),(8,[0,3,7,9,10,11,15,16,17,34]),(7,[0,3,7,9,10,11,15,16,17]),(6,[0,3,9,10,11,15,16,17,18]),(5,[0,3,9,10,11,15,16,17]),(4,[0,3,5,9,10,11]),(3,[0,3,9,10,11,12]),(2,[0,3,9,10,11]),(1,[0,3]),(0,[0])],QV [],QW []⟩
def GA:Info:=⟨QF [(7,[2]),(6,[1,2,3,14,15]),(5,[1,2,3,14,15]),(4,[1,2,3,4,14,15]),(3,[1,2,3,14,15,16]),(2,[1,2,3,14,15]),(1,[1,2,3]),(0,[1,2])],QV [(5,(.cons 2 true (.cons 3 true (.cons 4 true (.cons 5 true (.cons 6 true (.cons 0 false (.fork 1 (.cons 7 true (.cons 8 true (.cons 9 true (.cons 10 true (.cons 11 true .nil))))) 7 (.fork 1 (.cons 8 true (.cons 9 true (.cons 10 true (.cons 11 true .nil)))) 8 (.cons 1 true (.cons 9 true (.cons 10 true (.cons 11 true .nil)))))))))))))],QW [(0,[[1]])]⟩
def MB:Info:=⟨QF [(21,[2]),(20,[0,3,4,5,6,26,27]),(19,[0,3,4,5,6,26,27]),(18,[0,3,4,5,6,9,26,27]),(17,[0,3,4,5,6,9,26,27,96]),(16,[0,3,4,5,6,9,26,27]),(15,[0,3,4,5,6,8,9,26,27]),(14,[0,3,4,5,6,26,27]),(13,[0,3,4,5,6,26,27]),(12,[0,3,4,5,6,8,26,27,63]),(11,[0,3,4,5,6,8,26,27]),(10,[0,3,4,5,6,26,27,44]),(9,[0,3,4,5,6,26,27]),(8,[0,3,4,5,6,7,26,27]),(7,[0,3,4,5,6,7,26,27,34]),(6,[0,3,4,5,6,7,26,27]),(5,[0,3,4,5,6,26,27,28]),(4,[0,3,4,5,6,26,27]),(3,[0,3,4,5,6]),(2,[0,3,4,5]),(1,[0,3,4]),(0,[0])],QV [(12,(.cons 0 true (.cons 1 true (.cons 2 true (.cons 3 true (.cons 4 true (.cons 5 true (.cons 6 true (.cons 7 true (.cons 8 true (.cons 9 true (.cons 10 true (.cons 11 true (.cons 12 true .nil)))))))))))))),(15,(.cons 0 true (.cons 1 true (.cons 2 true (.cons 3 true (.cons 4 true (.cons 5 true (.cons 6 true (.cons 7 true (.cons 8 true (.cons 9 true (.cons 10 true (.cons 11 true (.cons 12 true (.cons 13 true .nil)))))))))))))))],QW []⟩
def FZ:Info:=⟨QF [(8,[2]),(6,[0,3,4]),(7,[0,3,4]),(5,[0,3,4,15]),(4,[0,3,4]),(3,[0,3]),(2,[0]),(1,[0,7]),(0,[0])],QV [],QW []⟩
def WY:Info:=⟨QF [(8,[4,5]),(6,[0,1,6,7,8]),(7,[0,1,6,7,8]),(5,[0,1,6,7,8,9,27]),(4,[0,1,6,7,8,9]),(3,[0,1,6,7,8,15]),(2,[0,1,6,7,8]),(1,[0,1,6]),(0,[0,1])],QV [],QW []⟩
def q3v:Info:=⟨QF [(1,[2]),(0,[0])],QV [],QW []⟩
def PE:Info:=⟨QF [(1,[2]),(0,[0])],QV [],QW []⟩
def x2t:Info:=⟨QF [(26,[2]),(25,[2]),(24,[1,89]),(23,[2]),(22,[1,3,4,5,70]),(6,[1,3,4,5,6,7,8,9]),(9,[1,3,4,5,6,7,8,9]),(11,[1,3,4,5,6,7,8,9]),(13,[1,3,4,5,6,7,8,9]),(15,[1,3,4,5,6,7,8,9]),(17,[1,3,4,5,6,7,8,9]),(19,[1,3,4,5,6,7,8,9]),(4,[2]),(21,[1,3,4,5,6,7,8,9,37]),(20,[1,3,4,5,6,7,8,9,16,37]),(18,[1,3,4,5,6,7,8,9,16,33]),(16,[1,3,4,5,6,7,8,9,16,31]),(14,[1,3,4,5,6,7,8,9,16,29]),(12,[1,3,4,5,6,7,8,9,16,24]),(10,[1,3,4,5,6,7,8,9,16,22]),(8,[1,3,4,5,6,7,8,9,16,19]),(7,[1,3,4,5,6,7,8,9,16,19]),(5,[1,3,4,5,6,7,8,9,16,17]),(3,[1,3,4,5,6,7,8,9,16]),(2,[1,3,4,5,6,7,8,9]),(1,[1,3,4,5,6,7,8]),(0,[1])],QV [(1,(.cons 0 true (.cons 1 true (.cons 2 true (.cons 3 true (.cons 4 true (.cons 5 true (.cons 6 true (.cons 7 true .nil)))))))))],QW [(0,[[1]])]⟩
def VV:Info:=⟨QF [(7,[4]),(6,[0,1,7,8]),(5,[4]),(4,[0,1,5,7,8,16]),(3,[0,1,5,7,8]),(2,[0,1,7,8,9]),(1,[0,1,7,8]),(0,[0,1])],QV [],QW []⟩
def x6r:Info:=⟨QF [(12,[2]),(11,[3,25,26,27]),(10,[3,25,26,27]),(9,[3,5,25,26,27]),(8,[3,5,25,26,27,32]),(7,[3,5,25,26,27]),(6,[3,25,26,27,28]),(5,[3,25,26,27]),(4,[1,3]),(3,[1,3]),(2,[1,3,13]),(1,[1,3]),(0,[1])],QV [],QW [(0,[[1]]),(7,[[5]])]⟩
def x4l:Info:=⟨QF [(13,[6]),(12,[6]),(11,[36]),(10,[6]),(9,[2,3,32]),(8,[2,3,4,10,11,12]),(7,[6]),(6,[2,3,4,10,11,12,27]),(5,[6]),(4,[2,3,4,8,10,11,12,23]),(3,[2,3,4,8,10,11,12]),(2,[2,3,4,10,11,12,13]),(1,[2,3,4,10,11,12]),(0,[2,3,4])],QV [],QW [(0,[[3],[4]]),(3,[[8]])]⟩
def x6q:Info:=⟨QF [(9,[4]),(8,[1,12,13,14]),(7,[4]),(6,[1,12,13,14,26]),(5,[1,5,6,12,13,14]),(4,[1,12,13,14,15]),(3,[1,12,13,14]),(2,[4]),(1,[0,1,11]),(0,[0,1])],QV [(6,(.cons 0 true (.cons 1 true (.cons 2 true (.cons 3 true (.cons 4 true (.cons 5 true (.cons 6 true (.cons 7 true .nil)))))))))],QW [(5,[[6]])]⟩
def x0r:Info:=⟨QF [(1,[4]),(0,[2,3])],QV [],QW [(0,[[2],[3]])]⟩
def x8l:Info:=⟨QF [(12,[4]),(11,[5]),(4,[0,5,6]),(10,[0,5,6,22,23,24]),(9,[0,5,6,22,23,24]),(8,[0,5,6,8,22,23,24,31]),(7,[0,5,6,8,22,23,24]),(6,[0,5,6,22,23,24,25]),(5,[0,5,6,22,23,24]),(3,[0,5,6,14]),(2,[0,5,6]),(1,[0,5]),(0,[0,1])],QV [],QW []⟩
def WL:Info:=⟨QF [(7,[4]),(6,[0,3,7,8]),(5,[4]),(4,[0,3,5,7,8,16]),(3,[0,3,5,7,8]),(2,[0,3,7,8,9]),(1,[0,3,7,8]),(0,[0,3])],QV [(4,(.cons 0 true (.cons 1 true (.cons 2 true (.cons 3 true (.cons 4 true (.cons 5 true .nil)))))))],QW [(0,[[3]])]⟩
def x2e:Info:=⟨QF [(8,[4]),(7,[1,23,24,25]),(6,[1,23,24,25]),(5,[1,6,23,24,25]),(4,[1,23,24,25,26]),(3,[1,23,24,25]),(2,[1,2]),(1,[1,2,16]),(0,[1,2])],QV [],QW [(0,[[2]]),(5,[[6]])]⟩
def DI:Info:=⟨QF [(7,[2]),(2,[2]),(4,[2]),(6,[2]),(5,[17]),(3,[0,10]),(1,[0,3]),(0,[0])],QV [],QW []⟩
def x8z:Info:=⟨QF [(1,[2]),(0,[0])],QV [],QW []⟩
def BW:Info:=⟨QF [(1,[0]),(0,[])],QV [],QW []⟩
def x9m:Info:=⟨QF [(3,[4]),(2,[4]),(1,[0,1,7]),(0,[0,1])],QV [],QW []⟩
def x1p:Info:=⟨QF [(1,[4]),(0,[2,3])],QV [(1,(.cons 0 true (.cons 1 true (.cons 3 false (.cons 4 false (.cons 7 false (.cons 8 false (.cons 10 false (.cons 11 false (.cons 14 false (.cons 15 false (.cons 16 false (.cons 17 false (.cons 2 true (.cons 5 true (.cons 6 true (.cons 9 true (.cons 12 true (.cons 13 true (.cons 18 true (.cons 19 true (.cons 20 true (.cons 21 true .nil)))))))))))))))))))))))],QW [(0,[[2],[3]])]⟩
def ZC:Info:=⟨QF [(16,[4]),(5,[0,1,5]),(15,[4]),(14,[0,5]),(10,[0,1,5,6,7]),(13,[0,1,5,6,7]),(12,[0,1,5,6,7]),(11,[0,1,5,6,7,49]),(9,[0,1,5,6,7,35]),(8,[0,1,5,6,7]),(7,[0,1,5,6]),(6,[0,1,5,28]),(4,[0,1,5,15]),(3,[0,1,5]),(2,[4]),(1,[0,1,10]),(0,[0,1])],QV [(6,(.cons 0 true (.cons 1 true (.cons 2 true (.cons 3 true (.cons 4 true (.cons 5 true (.cons 6 true (.cons 7 true (.cons 8 true (.cons 9 true (.cons 10 true .nil)))))))))))),(11,(.cons 0 true (.cons 1 true (.cons 2 true (.cons 3 true (.cons 4 true (.cons 5 true (.cons 6 true (.cons 7 true (.cons 8 true (.cons 9 true (.cons 10 true (.cons 11 true .nil)))))))))))))],QW []⟩
def x0m:Info:=⟨QF [(1,[4]),(0,[2,3])],QV [],QW [(0,[[2],[3]])]⟩
def q0r:Info:=⟨QF [(9,[6]),(8,[]),(7,[0,1,2,7]),(6,[0,1,2]),(5,[6]),(4,[0,1,2,7,31]),(3,[0,1,2,7,8]),(2,[6]),(1,[0,1,2,18]),(0,[0,1,2])],QV [(6,(.cons 13 true (.cons 0 false (.cons 1 false (.cons 2 false (.cons 3 false (.cons 4 false (.cons 5 false (.cons 6 false (.cons 7 false (.cons 8 false (.cons 9 false (.cons 10 false (.cons 11 false (.cons 12 false (.cons 14 true (.cons 15 true (.cons 16 true (.cons 17 true .nil))))))))))))))))))),(8,(.cons 13 true (.cons 0 false (.cons 1 false (.cons 2 false (.cons 3 false (.cons 4 false (.cons 5 false (.cons 6 false (.cons 7 false (.cons 8 false (.cons 9 false (.cons 10 false (.cons 11 false (.cons 12 false (.cons 14 true (.cons 15 true (.cons 16 true (.cons 17 true .nil)))))))))))))))))))],QW []⟩
def HN:Info:=⟨QF [(1,[2]),(0,[0])],QV [],QW []⟩
def x4n:Info:=⟨QF [(1,[4]),(0,[0,1])],QV [],QW []⟩
def x5y:Info:=⟨QF [(1,[4]),(0,[1,2])],QV [],QW [(0,[[2]])]⟩
def x2x:Info:=⟨QF [(7,[2]),(6,[5,6,7]),(5,[2]),(4,[5,6,7,25]),(3,[4,5,6,7]),(2,[5,6,7,8]),(1,[5,6,7]),(0,[0])],QV [],QW [(3,[[4]])]⟩
def ZN:Info:=⟨QF [(1,[4]),(0,[0,1])],QV [],QW []⟩
def q7q:Info:=⟨QF [(1,[3]),(0,[1,2])],QV [],QW [(0,[[2]])]⟩
def x1x:Info:=⟨QF [(9,[4]),(8,[5]),(7,[5,12,13,14]),(6,[5,12,13,14]),(5,[5,7,12,13,14,21]),(4,[5,7,12,13,14]),(3,[5,12,13,14,15]),(2,[5,12,13,14]),(1,[0,1,5]),(0,[0,1])],QV [],QW [(4,[[7]])]⟩
def x7s:Info:=⟨QF [(1,[2]),(0,[1])],QV [],QW [(0,[[1]])]⟩
abbrev Str:=List UInt8
inductive X where
 | mk (op n:Int) (name:Str) (kids:List X)
namespace X
def op:X->Int | .mk a _ _ _=>a
def n:X->Int | .mk _ a _ _=>a
def name:X->Str | .mk _ _ a _=>a
def kids:X->List X | .mk _ _ _ a=>a
end X
structure Arg where
 ref:Bool
 name:Str
 x:X
inductive S where
 | mk (id kind:Int) (labels:List Str) (name proc:Str) (x:X) (has:Bool) (args:List Arg) (thn els:List S)
namespace S
def id:S->Int | .mk a _ _ _ _ _ _ _ _ _=>a
def kind:S->Int | .mk _ a _ _ _ _ _ _ _ _=>a
def labels:S->List Str | .mk _ _ a _ _ _ _ _ _ _=>a
def name:S->Str | .mk _ _ _ a _ _ _ _ _ _=>a
def proc:S->Str | .mk _ _ _ _ a _ _ _ _ _=>a
def x:S->X | .mk _ _ _ _ _ a _ _ _ _=>a
def has:S->Bool | .mk _ _ _ _ _ _ a _ _ _=>a
def args:S->List Arg | .mk _ _ _ _ _ _ _ a _ _=>a
def thn:S->List S | .mk _ _ _ _ _ _ _ _ a _=>a
def els:S->List S | .mk _ _ _ _ _ _ _ _ _ a=>a
end S
structure Param where
 name:Str
 ref:Bool
structure Pr where
 name:Str
 params:List Param
 vars:List Str
 body:List S
 fin:List Str
structure Pg where
 globals:List Str
 procs:List Pr
structure Step where
 src:Int
 dst:Int
 kind:Int
 deriving DecidableEq
def eStrs (l:List Str):AV := .sl (l.map .str)
def ZM (l:List Int):AV := .sl (l.map (.int .i64))
mutual
def X.av:X->AV
 | .mk op n name kids => .agg [.int .i64 op,.int .i64 n,.str name,.sl (X.avs kids)]
def X.avs:List X->List AV
 | []=>[]
 | x::r=>X.av x::X.avs r
end
def X.cells (x:X):List AV:=[.int .i64 x.op,.int .i64 x.n,.str x.name,.sl (X.avs x.kids)]
theorem X.av_eq (x:X):x.av = .agg x.cells:=by cases x;simp only [X.av,X.cells,X.op,X.n,X.name,X.kids]
theorem X.avs_eq : ∀ l:List X,X.avs l=l.map fun x => .agg x.cells
 | []=>by simp only [X.avs,map_nil]
 | x::r=>by simp only [X.avs,X.av_eq,X.avs_eq r,map_cons]
def Arg.cells (a:Arg):List AV := .bool a.ref :: .str a.name::a.x.cells
mutual
def S.av:S->AV
 | .mk id kind labels name proc x has args thn els => .agg (.int .i64 id :: .int .i64 kind::eStrs labels :: .str name :: .str proc::(x.cells++[.bool has,.sl (args.map fun a => .agg a.cells),.sl (S.avs thn),.sl (S.avs els)]))
def S.avs:List S->List AV
 | []=>[]
 | x::r=>S.av x::S.avs r
end
def S.cells (s:S):List AV :=
 [.int .i64 s.id,.int .i64 s.kind,eStrs s.labels,.str s.name,.str s.proc,.int .i64 s.x.op,.int .i64 s.x.n,.str s.x.name,.sl (X.avs s.x.kids),.bool s.has,.sl (s.args.map fun a => .agg a.cells),.sl (S.avs s.thn),.sl (S.avs s.els)]
theorem S.av_eq (s:S):s.av = .agg s.cells:=by cases s;simp only [S.av,S.cells,X.cells,S.id,S.kind,S.labels,S.name,S.proc,S.x,S.has,S.args,S.thn,S.els,List.cons_append,List.nil_append]
theorem S.avs_eq : ∀ l:List S,S.avs l=l.map fun x => .agg x.cells
 | []=>by simp only [S.avs,map_nil]
 | x::r=>by simp only [S.avs,S.av_eq,S.avs_eq r,map_cons]
def eSs (l:List S):AV := .sl (S.avs l)
def z5b (l:List Arg):AV := .sl (l.map fun a => .agg a.cells)
def Param.cells (a:Param):List AV:=[.str a.name,.bool a.ref]
def Pr.cells (f:Pr):List AV:=[.str f.name,.sl (f.params.map fun a => .agg a.cells),eStrs f.vars,eSs f.body,eStrs f.fin]
def Pg.cells (p:Pg):List AV:=[eStrs p.globals,.sl (p.procs.map fun f => .agg f.cells)]
def Step.cells (s:Step):List AV:=[.int .i64 s.src,.int .i64 s.dst,.int .i64 s.kind]
def UL (l:List Step):AV := .sl (l.map fun s => .agg s.cells)
end Go.Ab
