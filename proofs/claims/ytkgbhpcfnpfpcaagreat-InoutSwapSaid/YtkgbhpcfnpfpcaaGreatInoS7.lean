/- The table of the types that the program's text names. -/
import Derived.Test.YtkgbhpcfnpfpcaaGreatChecked
import Derived.Deep.Slices
import Derived.Test.YtkgbhpcfnpfpcaaGreatInoS6
set_option linter.unusedSimpArgs false
set_option linter.unusedVariables false
set_option maxRecDepth 100000
set_option maxHeartbeats 16000000
open List (map_cons map_nil)
open Nat (beq)
namespace Go.Ab
open Go.Proofs
def ty0:TyI:=⟨Go.TypeDesc.tuple #[],1,0,(.tuple #[])⟩
def ty2:TyI:=⟨Go.TypeDesc.int (Go.IntKind.i64),1,8,(.int .i64 0)⟩
def ty3:TyI:=⟨Go.TypeDesc.int (Go.IntKind.i64),1,8,(.int .i64 0)⟩
def ty4:TyI:=⟨Go.TypeDesc.bool,1,1,(.bool false)⟩
def ty5:TyI:=⟨Go.TypeDesc.int (Go.IntKind.u8),1,1,(.int .u8 0)⟩
def ty9:TyI:=⟨Go.TypeDesc.string,1,16,(.string ByteArray.empty)⟩
def v2y:TyI:=⟨Go.TypeDesc.interface #[],1,16,.nilIface⟩
def v2u:TyI:=⟨Go.TypeDesc.slice 9,1,24,(.slice none 0 0)⟩
def v1i:TyI:=⟨Go.TypeDesc.slice 98,1,24,(.slice none 0 0)⟩
def w8s:TyI:=⟨Go.TypeDesc.struct #[{ name := "Globals",type:=22,offset:=0,embedded:=false,tag := "",pkgPath := "",byteOffset:=0 },{ name := "Procs",type:=23,offset:=1,embedded:=false,tag := "",pkgPath := "",byteOffset:=24 }],2,48,(.agg #[(.slice none 0 0),(.slice none 0 0)])⟩
def v2k:TyI:=⟨Go.TypeDesc.slice 36,1,24,(.slice none 0 0)⟩
def v0f:TyI:=⟨Go.TypeDesc.struct #[{ name := "Op",type:=3,offset:=0,embedded:=false,tag := "",pkgPath := "",byteOffset:=0 },{ name := "N",type:=2,offset:=1,embedded:=false,tag := "",pkgPath := "",byteOffset:=8 },{ name := "Name",type:=9,offset:=2,embedded:=false,tag := "",pkgPath := "",byteOffset:=16 },{ name := "Kids",type:=34,offset:=3,embedded:=false,tag := "",pkgPath := "",byteOffset:=32 }],4,56,(.agg #[(.int .i64 0),(.int .i64 0),(.string ByteArray.empty),(.slice none 0 0)])⟩
def v2h:TyI:=⟨Go.TypeDesc.slice 128,1,24,(.slice none 0 0)⟩
def v2q:TyI:=⟨Go.TypeDesc.slice 40,1,24,(.slice none 0 0)⟩
def v0c:TyI:=⟨Go.TypeDesc.struct #[{ name := "Id",type:=3,offset:=0,embedded:=false,tag := "",pkgPath := "",byteOffset:=0 },{ name := "Kind",type:=3,offset:=1,embedded:=false,tag := "",pkgPath := "",byteOffset:=8 },{ name := "Labels",type:=22,offset:=2,embedded:=false,tag := "",pkgPath := "",byteOffset:=16 },{ name := "Name",type:=9,offset:=3,embedded:=false,tag := "",pkgPath := "",byteOffset:=40 },{ name := "Proc",type:=9,offset:=4,embedded:=false,tag := "",pkgPath := "",byteOffset:=56 },{ name := "X",type:=36,offset:=5,embedded:=false,tag := "",pkgPath := "",byteOffset:=72 },{ name := "Has",type:=4,offset:=9,embedded:=false,tag := "",pkgPath := "",byteOffset:=128 },{ name := "Args",type:=37,offset:=10,embedded:=false,tag := "",pkgPath := "",byteOffset:=136 },{ name := "Then",type:=38,offset:=11,embedded:=false,tag := "",pkgPath := "",byteOffset:=160 },{ name := "Else",type:=38,offset:=12,embedded:=false,tag := "",pkgPath := "",byteOffset:=184 }],13,208,(.agg #[(.int .i64 0),(.int .i64 0),(.slice none 0 0),(.string ByteArray.empty),(.string ByteArray.empty),(.int .i64 0),(.int .i64 0),(.string ByteArray.empty),(.slice none 0 0),(.bool false),(.slice none 0 0),(.slice none 0 0),(.slice none 0 0)])⟩
def v2f:TyI:=⟨Go.TypeDesc.slice 22,1,24,(.slice none 0 0)⟩
def v2j:TyI:=⟨Go.TypeDesc.slice 74,1,24,(.slice none 0 0)⟩
def v2g:TyI:=⟨Go.TypeDesc.slice 145,1,24,(.slice none 0 0)⟩
def v1o:TyI:=⟨Go.TypeDesc.slice 3,1,24,(.slice none 0 0)⟩
def v2b:TyI:=⟨Go.TypeDesc.tuple #[3,3],1,0,(.tuple #[(.int .i64 0),(.int .i64 0)])⟩
def v2d:TyI:=⟨Go.TypeDesc.slice 104,1,24,(.slice none 0 0)⟩
def w9w:TyI:=⟨Go.TypeDesc.struct #[{ name := "Name",type:=9,offset:=0,embedded:=false,tag := "",pkgPath := "",byteOffset:=0 },{ name := "Params",type:=96,offset:=1,embedded:=false,tag := "",pkgPath := "",byteOffset:=16 },{ name := "Vars",type:=22,offset:=2,embedded:=false,tag := "",pkgPath := "",byteOffset:=40 },{ name := "Body",type:=38,offset:=3,embedded:=false,tag := "",pkgPath := "",byteOffset:=64 },{ name := "End",type:=22,offset:=4,embedded:=false,tag := "",pkgPath := "",byteOffset:=88 }],5,112,(.agg #[(.string ByteArray.empty),(.slice none 0 0),(.slice none 0 0),(.slice none 0 0),(.slice none 0 0)])⟩
def ty104:TyI:=⟨Go.TypeDesc.struct #[{ name := "Name",type:=9,offset:=0,embedded:=false,tag := "",pkgPath := "",byteOffset:=0 },{ name := "Ref",type:=4,offset:=1,embedded:=false,tag := "",pkgPath := "",byteOffset:=16 }],2,24,(.agg #[(.string ByteArray.empty),(.bool false)])⟩
def v0y:TyI:=⟨Go.TypeDesc.int (Go.IntKind.i64),1,8,(.int .i64 0)⟩
def v0p:TyI:=⟨Go.TypeDesc.struct #[{ name := "Code",type:=112,offset:=0,embedded:=false,tag := "",pkgPath := "",byteOffset:=0 },{ name := "At",type:=3,offset:=1,embedded:=false,tag := "",pkgPath := "",byteOffset:=8 }],2,16,(.agg #[(.int .i64 0),(.int .i64 0)])⟩
def v0j:TyI:=⟨Go.TypeDesc.pointer 122,1,8,(.pointer none)⟩
def v1w:TyI:=⟨Go.TypeDesc.pointer 165,1,8,(.pointer none)⟩
def w9s:TyI:=⟨Go.TypeDesc.slice 137,1,24,(.slice none 0 0)⟩
def v0x:TyI:=⟨Go.TypeDesc.struct #[{ name := "S",type:=119,offset:=0,embedded:=false,tag := "",pkgPath := "",byteOffset:=0 },{ name := "Ways",type:=120,offset:=1,embedded:=false,tag := "",pkgPath := "",byteOffset:=8 },{ name := "Defs",type:=45,offset:=2,embedded:=false,tag := "",pkgPath := "",byteOffset:=32 },{ name := "Uses",type:=45,offset:=3,embedded:=false,tag := "",pkgPath := "",byteOffset:=56 },{ name := "Ins",type:=45,offset:=4,embedded:=false,tag := "",pkgPath := "",byteOffset:=80 },{ name := "Outs",type:=45,offset:=5,embedded:=false,tag := "",pkgPath := "",byteOffset:=104 }],6,128,(.agg #[(.pointer none),(.slice none 0 0),(.slice none 0 0),(.slice none 0 0),(.slice none 0 0),(.slice none 0 0)])⟩
def w4x:TyI:=⟨Go.TypeDesc.struct #[{ name := "Ref",type:=4,offset:=0,embedded:=false,tag := "",pkgPath := "",byteOffset:=0 },{ name := "Name",type:=9,offset:=1,embedded:=false,tag := "",pkgPath := "",byteOffset:=8 },{ name := "X",type:=36,offset:=2,embedded:=false,tag := "",pkgPath := "",byteOffset:=24 }],6,80,(.agg #[(.bool false),(.string ByteArray.empty),(.int .i64 0),(.int .i64 0),(.string ByteArray.empty),(.slice none 0 0)])⟩
def v0h:TyI:=⟨Go.TypeDesc.tuple #[3,4],1,0,(.tuple #[(.int .i64 0),(.bool false)])⟩
def w9k:TyI:=⟨Go.TypeDesc.pointer 141,1,8,(.pointer none)⟩
def w9q:TyI:=⟨Go.TypeDesc.slice 4,1,24,(.slice none 0 0)⟩
def w9t:TyI:=⟨Go.TypeDesc.struct #[{ name := "S",type:=119,offset:=0,embedded:=false,tag := "",pkgPath := "",byteOffset:=0 },{ name := "Proc",type:=3,offset:=1,embedded:=false,tag := "",pkgPath := "",byteOffset:=8 },{ name := "N",type:=3,offset:=2,embedded:=false,tag := "",pkgPath := "",byteOffset:=16 },{ name := "Real",type:=61,offset:=3,embedded:=false,tag := "",pkgPath := "",byteOffset:=24 },{ name := "Live",type:=139,offset:=4,embedded:=false,tag := "",pkgPath := "",byteOffset:=48 }],5,72,(.agg #[(.pointer none),(.int .i64 0),(.int .i64 0),(.slice none 0 0),(.slice none 0 0)])⟩
def v0s:TyI:=⟨Go.TypeDesc.struct #[{ name := "From",type:=3,offset:=0,embedded:=false,tag := "",pkgPath := "",byteOffset:=0 },{ name := "To",type:=3,offset:=1,embedded:=false,tag := "",pkgPath := "",byteOffset:=8 },{ name := "Kind",type:=3,offset:=2,embedded:=false,tag := "",pkgPath := "",byteOffset:=16 }],3,24,(.agg #[(.int .i64 0),(.int .i64 0),(.int .i64 0)])⟩
def w9b:TyI:=⟨Go.TypeDesc.struct #[{ name := "S",type:=40,offset:=0,embedded:=false,tag := "",pkgPath := "",byteOffset:=0 },{ name := "Proc",type:=3,offset:=13,embedded:=false,tag := "",pkgPath := "",byteOffset:=208 },{ name := "Up",type:=3,offset:=14,embedded:=false,tag := "",pkgPath := "",byteOffset:=216 },{ name := "Next",type:=3,offset:=15,embedded:=false,tag := "",pkgPath := "",byteOffset:=224 },{ name := "Loop",type:=3,offset:=16,embedded:=false,tag := "",pkgPath := "",byteOffset:=232 }],17,240,(.agg #[(.int .i64 0),(.int .i64 0),(.slice none 0 0),(.string ByteArray.empty),(.string ByteArray.empty),(.int .i64 0),(.int .i64 0),(.string ByteArray.empty),(.slice none 0 0),(.bool false),(.slice none 0 0),(.slice none 0 0),(.slice none 0 0),(.int .i64 0),(.int .i64 0),(.int .i64 0),(.int .i64 0)])⟩
def w9l:TyI:=⟨Go.TypeDesc.slice 162,1,24,(.slice none 0 0)⟩
def v0d:TyI:=⟨Go.TypeDesc.struct #[{ name := "P",type:=25,offset:=0,embedded:=false,tag := "",pkgPath := "",byteOffset:=0 },{ name := "L",type:=163,offset:=2,embedded:=false,tag := "",pkgPath := "",byteOffset:=48 },{ name := "Lo",type:=74,offset:=3,embedded:=false,tag := "",pkgPath := "",byteOffset:=72 },{ name := "Hi",type:=74,offset:=4,embedded:=false,tag := "",pkgPath := "",byteOffset:=96 }],5,120,(.agg #[(.slice none 0 0),(.slice none 0 0),(.slice none 0 0),(.slice none 0 0),(.slice none 0 0)])⟩
def w9v:TyI:=⟨Go.TypeDesc.func #[98] #[4] false,1,8,.nilFunc⟩
def v0u:TyI:=⟨Go.TypeDesc.func #[9] #[4] false,1,8,.nilFunc⟩
def v0n:TyI:=⟨Go.TypeDesc.tuple #[38,3],1,0,(.tuple #[(.slice none 0 0),(.int .i64 0)])⟩
def v0g:TyI:=⟨Go.TypeDesc.pointer 258,1,8,(.pointer none)⟩
def w9r:TyI:=⟨Go.TypeDesc.int (Go.IntKind.u64),1,8,(.int .u64 0)⟩
def v1j:TyI:=⟨Go.TypeDesc.slice 212,1,24,(.slice none 0 0)⟩
def w9n:TyI:=⟨Go.TypeDesc.array 2 3,2,16,(.agg #[(.int .i64 0),(.int .i64 0)])⟩
def v0t:TyI:=⟨Go.TypeDesc.pointer 228,1,8,(.pointer none)⟩
def w8e:TyI:=⟨Go.TypeDesc.struct #[{ name := "seen",type:=3,offset:=0,embedded:=false,tag := "",pkgPath := "whittler/tree",byteOffset:=0 }],1,8,(.agg #[(.int .i64 0)])⟩
def w9f:TyI:=⟨Go.TypeDesc.tuple #[22,4],1,0,(.tuple #[(.slice none 0 0),(.bool false)])⟩
def v0o:TyI:=⟨Go.TypeDesc.map 9 22,1,8,(.map none)⟩
def v1x:TyI:=⟨Go.TypeDesc.struct #[{ name := "next",type:=47,offset:=0,embedded:=false,tag := "",pkgPath := "whittler/graph",byteOffset:=0 },{ name := "prev",type:=47,offset:=1,embedded:=false,tag := "",pkgPath := "whittler/graph",byteOffset:=24 }],2,48,(.agg #[(.slice none 0 0),(.slice none 0 0)])⟩
def v0w:TyI:=⟨Go.TypeDesc.int (Go.IntKind.i64),1,8,(.int .i64 0)⟩
def v0b:TyI:=⟨Go.TypeDesc.tuple #[3,262],1,0,(.tuple #[(.int .i64 0),(.int .i64 0)])⟩
def v0r:TyI:=⟨Go.TypeDesc.int (Go.IntKind.u64),1,8,(.int .u64 0)⟩
def v1v:TyI:=⟨Go.TypeDesc.func #[145,145] #[4] false,1,8,.nilFunc⟩
def w9d:TyI:=⟨Go.TypeDesc.func #[145,145] #[3] false,1,8,.nilFunc⟩
def w9o:TyI:=⟨Go.TypeDesc.int (Go.IntKind.u64),1,8,(.int .u64 0)⟩
def w8a:TyI:=⟨Go.TypeDesc.pointer 3,1,8,(.pointer none)⟩
def v0e:TyI:=⟨Go.TypeDesc.pointer 297,1,8,(.pointer none)⟩
def tab:Tab:=[(0,ty0),(2,ty2),(3,ty3),(4,ty4),(5,ty5),(9,ty9),(20,v2y),(22,v2u),(23,v1i),(25,w8s),(34,v2k),(36,v0f),(37,v2h),(38,v2q),(40,v0c),(45,v2f),(47,v2j),(61,v2g),(74,v1o),(82,v2b),(96,v2d),(98,w9w),(104,ty104),(112,v0y),(114,v0p),(117,v0j),(119,v1w),(120,w9s),(122,v0x),(128,w4x),(133,v0h),(137,w9k),(139,w9q),(141,w9t),(145,v0s),(162,w9b),(163,w9l),(165,v0d),(175,w9v),(183,v0u),(186,v0n),(202,v0g),(207,w9r),(210,v1j),(212,w9n),(226,v0t),(228,w8e),(235,w9f),(238,v0o),(258,v1x),(262,v0w),(263,v0b),(272,v0r),(290,v1v),(295,w9d),(297,w9o),(301,w8a),(322,v0e)]
theorem QJ:TabOK Tryz.prog tab:=by
 repeat refine TabOK.cons (by kernel_rfl) (by kernel_rfl) ?_
 exact TabOK.nil _
theorem mixed:Tryz.prog.follows .mixedOrders=true:=by kernel_rfl
def QR (t:List (Nat×List Nat)) (i:Nat):List Nat :=
 match t with
 | []=>[]
 | (j,l)::r=>bif beq j i then l else QR r i
def QU (t:List (Nat×List (List Nat))) (i:Nat):List (List Nat) :=
 match t with
 | []=>[]
 | (j,l)::r=>bif beq j i then l else QU r i
def QY (t:List (Nat×Sched)) (i:Nat):Sched :=
 match t with
 | [] => .nil
 | (j,l)::r=>bif beq j i then l else QY r i
def JF:Info:=⟨QR [(11,[10]),(10,[10]),(9,[1,2,4,5,11,75]),(8,[1,2,4,5,11,12,13]),(7,[1,2,3,4,5,11]),(6,[10]),(5,[1,2,3,4,5,41]),(4,[10]),(3,[1,2,3,4,5,18]),(2,[10]),(1,[1,2,3,4,5,15]),(0,[1,2,3,4,5])],QY [(8,(.cons 0 true (.cons 1 true (.cons 3 false (.cons 4 false (.cons 2 true (.cons 5 true (.cons 6 true (.cons 7 true .nil))))))))),(9,(.cons 0 true (.cons 1 true (.cons 3 false (.cons 4 false (.cons 6 false (.cons 7 false (.cons 2 true (.cons 5 true (.cons 8 true (.cons 9 true (.cons 10 true (.cons 11 true (.cons 12 true (.cons 13 true (.cons 15 false (.cons 16 false (.cons 18 false (.cons 19 false (.cons 14 true (.cons 17 true (.cons 20 true (.cons 21 true (.cons 22 true (.cons 23 true .nil))))))))))))))))))))))))),(11,(.cons 0 true (.cons 1 true (.cons 3 false (.cons 4 false (.cons 6 false (.cons 7 false (.cons 2 true (.cons 5 true (.cons 8 true (.cons 9 true (.cons 10 true (.cons 11 true (.cons 12 true (.cons 14 false (.cons 15 false (.cons 17 false (.cons 18 false (.cons 13 true (.cons 16 true (.cons 19 true (.cons 20 true (.cons 21 true (.cons 22 true .nil))))))))))))))))))))))))],QU [(0,[[5]]),(7,[[11]])]⟩
def GD:Info:=⟨QR [(2,[0]),(1,[1]),(0,[])],QY [],QU [(1,[[1]])]⟩
def BN:Info:=⟨QR [(12,[2]),(4,[1,3,4]),(11,[1,3,4]),(9,[1,3,4,5,6]),(10,[1,3,4,5,6]),(8,[1,3,4,5,6,44]),(7,[1,3,4,5,6]),(6,[1,3,4,5]),(5,[1,3,4,5]),(3,[1,3,4,18]),(2,[1,3,4]),(1,[1,3]),(0,[1])],QY [(6,(.cons 4 true (.cons 5 true (.cons 6 true (.cons 0 false (.cons 1 false (.cons 2 false (.cons 3 false (.cons 7 true (.cons 8 true (.cons 9 true (.cons 10 true .nil))))))))))))],QU [(0,[[1]]),(5,[[5]])]⟩
def x6i:Info:=⟨QR [(1,[2]),(0,[1])],QY [],QU [(0,[[1]])]⟩
def x2e:Info:=⟨QR [(7,[2]),(6,[3,7,8,9]),(5,[3,7,8,9]),(4,[3,5,7,8,9]),(3,[3,7,8,9,10]),(2,[3,7,8,9]),(1,[1,3]),(0,[1])],QY [],QU [(0,[[1]]),(4,[[5]])]⟩
def FJ:Info:=⟨QR [(3,[4]),(2,[4]),(1,[1,2,8]),(0,[1,2])],QY [(3,(.cons 2 true (.cons 3 true (.cons 4 true (.cons 5 true (.cons 0 false (.cons 1 false (.cons 6 true (.cons 7 true (.cons 8 true (.cons 9 true (.cons 10 true .nil))))))))))))],QU [(0,[[2]])]⟩
def HQ:Info:=⟨QR [(9,[4]),(8,[0,1,12,13]),(7,[4]),(6,[0,1,12,13,24]),(5,[0,1,5,12,13]),(4,[0,1,12,13,14]),(3,[0,1,12,13]),(2,[4]),(1,[0,1,10]),(0,[0,1])],QY [(6,(.cons 0 true (.cons 1 true (.cons 2 true (.cons 3 true (.cons 4 true (.cons 5 true (.cons 6 true (.cons 7 true (.cons 8 true .nil))))))))))],QU []⟩
def x6n:Info:=⟨QR [(4,[4]),(3,[4]),(2,[1,5,18]),(1,[1,5]),(0,[1,2])],QY [(4,(.cons 4 true (.cons 5 true (.cons 6 true (.cons 7 true (.cons 8 true (.cons 0 false (.cons 1 false (.cons 2 false (.cons 3 false (.cons 9 true (.cons 10 true (.cons 11 true (.cons 12 true .nil))))))))))))))],QU [(0,[[2]])]⟩
def x3p:Info:=⟨QR [(4,[4]),(3,[4]),(2,[1,5,18]),(1,[1,5]),(0,[1,2])],QY [(4,(.cons 4 true (.cons 5 true (.cons 6 true (.cons 7 true (.cons 8 true (.cons 0 false (.cons 1 false (.cons 2 false (.cons 3 false (.cons 9 true (.cons 10 true (.cons 11 true (.cons 12 true .nil))))))))))))))],QU [(0,[[2]])]⟩
def x4s:Info:=⟨QR [(4,[4]),(3,[4]),(2,[1,5,18]),(1,[1,5]),(0,[1,2])],QY [],QU [(0,[[2]])]⟩
def x3n:Info:=⟨QR [(4,[4]),(3,[4]),(2,[1,5,18]),(1,[1,5]),(0,[1,2])],QY [],QU [(0,[[2]])]⟩
def FU:Info:=⟨QR [(1,[4]),(0,[1,2])],QY [],QU [(0,[[2]])]⟩
def q6k:Info:=⟨QR [(1,[2]),(0,[1])],QY [],QU [(0,[[1]])]⟩
def BK:Info:=⟨QR [(13,[6]),(12,[1,2,6,7,20,21,22]),(11,[1,2,6,7,20,21,22]),(10,[1,2,6,7,10,20,21,22,48,49,50]),(9,[1,2,6,7,10,20,21,22,48,49,50]),(8,[1,2,6,7,10,12,20,21,22,48,49,50]),(7,[1,2,6,7,10,20,21,22,48,49,50,51]),(6,[1,2,6,7,10,20,21,22,48,49,50]),(5,[1,2,6,7,9,10,20,21,22]),(4,[1,2,6,7,9,20,21,22]),(3,[1,2,6,7,20,21,22,23]),(2,[1,2,6,7,20,21,22]),(1,[1,2,3,6,7]),(0,[1,2,3,6])],QY [(5,(.cons 0 false (.cons 1 false (.cons 2 false (.cons 3 false (.cons 5 false (.cons 6 false (.cons 7 false (.cons 8 false (.cons 10 false (.cons 11 false (.cons 12 false (.cons 13 false (.cons 15 false (.cons 16 false (.cons 17 false (.cons 18 false (.fork 4 (.fork 9 (.fork 14 (.fork 19 (.cons 20 false (.cons 21 true (.cons 22 true .nil))) 21 (.cons 19 true (.cons 20 true (.cons 22 true .nil)))) 21 (.cons 14 true (.cons 19 true (.cons 20 true (.cons 22 true .nil))))) 21 (.cons 9 true (.cons 14 true (.cons 19 true (.cons 20 true (.cons 22 true .nil)))))) 21 (.cons 4 true (.cons 9 true (.cons 14 true (.cons 19 true (.cons 20 true (.cons 22 true .nil)))))))))))))))))))))))),(9,(.cons 4 true (.cons 5 true (.cons 6 true (.cons 7 true (.cons 0 false (.cons 2 false (.cons 3 false (.fork 1 (.cons 8 true (.cons 9 true (.cons 10 true (.cons 11 true (.cons 12 true (.cons 13 true .nil)))))) 8 (.cons 9 true (.fork 1 (.cons 10 true (.cons 11 true (.cons 12 true (.cons 13 true .nil)))) 10 (.cons 1 true (.cons 11 true (.cons 12 true (.cons 13 true .nil)))))))))))))))],QU [(0,[[3]]),(4,[[9]]),(8,[[12]])]⟩
def GL:Info:=⟨QR [(1,[6]),(0,[0,1,2])],QY [],QU []⟩
def LO:Info:=⟨QR [(7,[4]),(6,[0,1,7,8]),(5,[4]),(4,[0,1,7,8,16]),(3,[0,1,5,7,8]),(2,[0,1,7,8,9]),(1,[0,1,7,8]),(0,[0,1])],QY [],QU []⟩
def NG:Info:=⟨QR [(9,[4]),(8,[3,4,5,14,15,16]),(7,[3,4,5,14,15,16]),(6,[3,4,5,8,14,15,16]),(5,[3,4,5,7,8,14,15,16]),(4,[3,4,5,7,14,15,16]),(3,[3,4,5,14,15,16,17]),(2,[3,4,5,14,15,16]),(1,[2,3,4,5]),(0,[2,3,4])],QY [(5,(.cons 0 false (.cons 1 false (.cons 2 false (.cons 3 false (.cons 5 false (.cons 6 false (.cons 8 false (.cons 9 false (.cons 10 false (.fork 4 (.fork 7 (.fork 11 (.cons 12 false (.cons 13 true (.cons 14 true .nil))) 13 (.cons 11 true (.cons 12 true (.cons 14 true .nil)))) 13 (.cons 7 true (.cons 11 true (.cons 12 true (.cons 14 true .nil))))) 13 (.cons 4 true (.cons 7 true (.cons 11 true (.cons 12 true (.cons 14 true .nil))))))))))))))))],QU [(0,[[2],[3]]),(4,[[7]])]⟩
def PL:Info:=⟨QR [(6,[4]),(5,[4]),(4,[0,1,11]),(3,[0,1]),(2,[4]),(1,[0,1,6]),(0,[0,1])],QY [],QU []⟩
def YE:Info:=⟨QR [(3,[0]),(2,[0,1,2]),(1,[0,1]),(0,[0])],QY [],QU [(1,[[1]]),(2,[[2]])]⟩
def JJ:Info:=⟨QR [(5,[4]),(3,[0,1,5]),(4,[0,1,5]),(2,[0,1,5,13]),(1,[0,1,5]),(0,[0,1])],QY [],QU []⟩
def KX:Info:=⟨QR [(3,[4]),(2,[4]),(1,[0,1,13]),(0,[0,1])],QY [],QU []⟩
def JB:Info:=⟨QR [(11,[4]),(3,[0,1,5]),(10,[0,1,5]),(8,[0,1,5,6,7]),(9,[0,1,5,6,7]),(7,[0,1,5,6,7,43]),(6,[0,1,5,6,7]),(5,[0,1,5,6]),(4,[0,1,5,6]),(2,[0,1,5,15]),(1,[0,1,5]),(0,[0,1])],QY [(5,(.cons 6 true (.cons 7 true (.cons 8 true (.cons 0 false (.cons 1 false (.cons 2 false (.cons 3 false (.cons 4 false (.cons 5 false (.cons 9 true (.cons 10 true (.cons 11 true (.cons 12 true (.cons 13 true .nil))))))))))))))),(9,(.cons 6 true (.cons 7 true (.cons 8 true (.cons 9 true (.cons 10 true (.cons 11 true (.cons 12 true (.cons 0 false (.cons 1 false (.cons 2 false (.cons 3 false (.cons 4 false (.cons 5 false (.cons 13 true (.cons 14 true (.cons 15 true .nil))))))))))))))))),(10,(.cons 2 true (.cons 3 true (.cons 4 true (.cons 0 false (.cons 1 false (.cons 5 true (.cons 6 true (.cons 7 true .nil)))))))))],QU [(4,[[6]])]⟩
def x5l:Info:=⟨QR [(10,[2]),(9,[2,3]),(8,[1,2,3,22]),(7,[1,2,3]),(6,[1,2,3,17]),(5,[1,2,3]),(4,[1,2,3,12]),(3,[1,2,3]),(2,[2]),(1,[1,2,6]),(0,[1,2])],QY [],QU [(0,[[1]])]⟩
def x1p:Info:=⟨QR [(7,[2]),(6,[0,3,8,9]),(5,[0,3,8,9]),(4,[0,3,4,8,9]),(3,[0,3,8,9,10]),(2,[0,3,8,9]),(1,[0,3]),(0,[0])],QY [(5,(.cons 1 true (.cons 2 true (.cons 3 true (.cons 4 true (.cons 5 true (.cons 0 false (.cons 7 false (.cons 8 false (.cons 9 false (.cons 10 false (.cons 11 false (.cons 6 true (.cons 12 true (.cons 13 true (.cons 14 true (.cons 15 true .nil)))))))))))))))))],QU []⟩
def q7f:Info:=⟨QR [(39,[2]),(38,[1,3,10,147,148]),(37,[1,3,10,147,148]),(36,[1,3,10,13,14,147,148]),(35,[1,3,10,13,14,147,148]),(34,[1,3,10,13,147,148]),(33,[1,3,10,147,148,149]),(32,[1,3,10,147,148]),(31,[1,3,10,124,125,126]),(30,[1,3,10,124,125,126]),(29,[1,3,10,12,124,125,126]),(28,[1,3,10,124,125,126,127]),(27,[1,3,10,124,125,126]),(26,[1,3,10]),(25,[1,3,114]),(24,[1,3,10]),(23,[1,3,5,85,86]),(22,[1,3,5,85,86]),(21,[1,3,5,8,9,85,86]),(20,[1,3,5,8,9,85,86]),(19,[1,3,5,8,85,86]),(18,[1,3,5,85,86,87]),(17,[1,3,5,85,86]),(16,[1,3,5,62,63,64]),(15,[1,3,5,62,63,64]),(14,[1,3,5,7,62,63,64]),(13,[1,3,5,62,63,64,65]),(12,[1,3,5,62,63,64]),(11,[1,3,5]),(10,[1,3,52]),(9,[1,3,5]),(8,[1,3,32,33]),(7,[1,3,32,33]),(6,[1,3,4,32,33]),(5,[1,3,32,33,34]),(4,[1,3,32,33]),(3,[1,3]),(2,[2]),(1,[1,17]),(0,[1])],QY [(3,(.cons 0 false (.cons 2 false (.cons 3 false (.cons 4 false (.cons 6 false (.cons 7 false (.cons 8 false .nil)))))))),(7,(.cons 5 true (.cons 6 true (.cons 7 true (.cons 8 true (.cons 9 true (.cons 0 false (.cons 1 false (.cons 2 false (.cons 3 false (.fork 4 (.cons 10 true (.cons 11 true (.cons 12 true (.cons 13 true (.cons 14 true (.cons 15 true .nil)))))) 10 (.fork 4 (.cons 11 true (.cons 12 true (.cons 13 true (.cons 14 true (.cons 15 true .nil))))) 11 (.cons 4 true (.cons 12 true (.cons 13 true (.cons 14 true (.cons 15 true .nil))))))))))))))))),(15,(.cons 5 true (.cons 6 true (.cons 7 true (.cons 0 false (.cons 1 false (.cons 2 false (.cons 3 false (.fork 4 (.cons 8 true (.cons 9 true (.cons 10 true (.cons 11 true (.cons 12 true (.cons 13 true (.cons 14 true .nil))))))) 8 (.fork 4 (.cons 9 true (.cons 10 true (.cons 11 true (.cons 12 true (.cons 13 true (.cons 14 true .nil)))))) 9 (.fork 4 (.cons 10 true (.cons 11 true (.cons 12 true (.cons 13 true (.cons 14 true .nil))))) 10 (.cons 4 true (.cons 11 true (.cons 12 true (.cons 13 true (.cons 14 true .nil)))))))))))))))),(30,(.cons 5 true (.cons 6 true (.cons 7 true (.cons 0 false (.cons 1 false (.cons 2 false (.cons 3 false (.fork 4 (.cons 8 true (.cons 9 true (.cons 10 true (.cons 11 true (.cons 12 true (.cons 13 true (.cons 14 true .nil))))))) 8 (.fork 4 (.cons 9 true (.cons 10 true (.cons 11 true (.cons 12 true (.cons 13 true (.cons 14 true .nil)))))) 9 (.fork 4 (.cons 10 true (.cons 11 true (.cons 12 true (.cons 13 true (.cons 14 true .nil))))) 10 (.cons 4 true (.cons 11 true (.cons 12 true (.cons 13 true (.cons 14 true .nil))))))))))))))))],QU [(0,[[1]]),(14,[[7]]),(29,[[12]])]⟩
def LS:Info:=⟨QR [(1,[4]),(0,[0,3])],QY [],QU [(0,[[3]])]⟩
def q1j:Info:=⟨QR [(1,[4]),(0,[0,1])],QY [],QU []⟩
def FZ:Info:=⟨QR [(14,[2]),(13,[0,3,9,10]),(12,[0,3,9,10]),(11,[0,3,4,9,10,33]),(10,[0,3,4,5,9,10,12,13,14]),(9,[0,3,4,5,9,10,12,13,14]),(8,[0,3,4,5,7,9,10,12,13,14,30]),(7,[0,3,4,5,7,9,10,12,13,14]),(6,[0,3,4,5,9,10,12,13,14,15]),(5,[0,3,4,5,9,10,12,13,14]),(4,[0,3,4,5,9,10]),(3,[0,3,9,10,11]),(2,[0,3,9,10]),(1,[0,3]),(0,[0])],QY [],QU []⟩
def q3z:Info:=⟨QR [(16,[4]),(15,[1,49,50,51]),(14,[4]),(13,[1,49,50,51,59]),(12,[1,6,49,50,51]),(11,[1,49,50,51,52]),(10,[1,49,50,51]),(9,[4]),(8,[1,2,47]),(5,[4]),(7,[4]),(6,[1,2,30]),(4,[1,2,19,20]),(3,[1,2,19]),(2,[4]),(1,[1,2,17]),(0,[1,2])],QY [(1,(.cons 0 true (.cons 1 true (.cons 2 true (.cons 6 true (.cons 7 true (.cons 3 false (.cons 4 false (.cons 5 false (.cons 8 true (.cons 9 true (.cons 10 true .nil))))))))))))],QU [(0,[[2]]),(12,[[6]])]⟩
def KY:Info:=⟨QR [(7,[6]),(6,[1,2,7,10,11,12]),(5,[1,2,7,10,11,12]),(4,[1,2,7,9,10,11,12]),(3,[1,2,7,10,11,12,13]),(2,[1,2,7,10,11,12]),(1,[0,1,2,7]),(0,[0,1,2])],QY [],QU []⟩
def DL:Info:=⟨QR [(6,[6]),(3,[6]),(5,[6]),(4,[0,1,12]),(2,[0,1,2,7,8]),(1,[0,1,2,7]),(0,[0,1,2])],QY [],QU []⟩
def JR:Info:=⟨QR [(14,[6]),(13,[1,2,7,13,14,15]),(12,[1,2,7,13,14,15]),(11,[1,2,7,10,13,14,15]),(10,[1,2,7,9,10,13,14,15,47,48,49]),(9,[1,2,7,9,10,13,14,15,47,48,49]),(8,[1,2,7,9,10,12,13,14,15,47,48,49]),(7,[1,2,7,9,10,13,14,15,47,48,49,50]),(6,[1,2,7,9,10,13,14,15,47,48,49]),(5,[1,2,7,9,10,13,14,15]),(4,[1,2,7,9,13,14,15]),(3,[1,2,7,13,14,15,16]),(2,[1,2,7,13,14,15]),(1,[0,1,2,7]),(0,[0,1,2])],QY [(5,(.cons 0 false (.cons 1 false (.cons 2 false (.cons 3 false (.cons 4 false (.cons 5 false (.cons 6 false (.cons 7 false (.cons 9 false (.cons 10 false (.cons 11 false (.cons 12 false (.cons 14 false (.cons 15 false (.cons 16 false (.cons 17 false (.cons 19 false (.cons 20 false (.cons 21 false (.cons 22 false (.cons 24 false (.cons 25 false (.fork 8 (.fork 13 (.fork 18 (.fork 23 (.cons 26 false (.cons 27 true (.cons 28 true .nil))) 27 (.cons 23 true (.cons 26 true (.cons 28 true .nil)))) 27 (.cons 18 true (.cons 23 true (.cons 26 true (.cons 28 true .nil))))) 27 (.cons 13 true (.cons 18 true (.cons 23 true (.cons 26 true (.cons 28 true .nil)))))) 27 (.cons 8 true (.cons 13 true (.cons 18 true (.cons 23 true (.cons 26 true (.cons 28 true .nil)))))))))))))))))))))))))))))),(9,(.cons 4 true (.cons 5 true (.cons 6 true (.cons 7 true (.cons 0 false (.cons 2 false (.cons 3 false (.cons 9 false (.cons 10 false (.cons 11 false (.cons 12 false (.fork 1 (.cons 8 true (.cons 13 true (.cons 14 true (.cons 15 true (.cons 16 true (.cons 17 true (.cons 18 true .nil))))))) 8 (.fork 1 (.cons 13 true (.cons 14 true (.cons 15 true (.cons 16 true (.cons 17 true (.cons 18 true .nil)))))) 13 (.cons 14 true (.fork 1 (.cons 15 true (.cons 16 true (.cons 17 true (.cons 18 true .nil)))) 15 (.cons 1 true (.cons 16 true (.cons 17 true (.cons 18 true .nil)))))))))))))))))))),(11,(.cons 0 true (.cons 1 true (.cons 2 true (.cons 3 true (.cons 5 false (.cons 6 false (.cons 7 false (.cons 8 false (.cons 4 true (.cons 10 false (.cons 9 true (.cons 11 true (.cons 12 true (.cons 13 true .nil)))))))))))))))],QU [(4,[[9]]),(8,[[12]])]⟩
def DM:Info:=⟨QR [(2,[2]),(1,[0,3]),(0,[0])],QY [],QU []⟩
def DC:Info:=⟨QR [(1,[2]),(0,[1,2])],QY [],QU [(0,[[1]])]⟩
def HS:Info:=⟨QR [(8,[2]),(7,[1,2,3,4,10,11]),(6,[1,2,3,4,10,11]),(5,[1,2,3,4,5,10,11]),(4,[1,2,3,4,10,11,12]),(3,[1,2,3,4,10,11]),(2,[1,2,3,4]),(1,[1,2,3]),(0,[1,2])],QY [(6,(.cons 3 true (.cons 4 true (.cons 5 true (.cons 6 true (.cons 7 true (.cons 8 true (.cons 9 true (.cons 0 false (.cons 1 false (.cons 2 false (.cons 10 true (.cons 11 true (.cons 12 true (.cons 14 true (.cons 15 true (.cons 13 false (.cons 16 true (.cons 17 true .nil)))))))))))))))))))],QU [(0,[[1]]),(1,[[3]])]⟩
def z1v:Info:=⟨QR [(9,[2]),(8,[3,10,11,12]),(7,[3,10,11,12]),(6,[3,10,11,12]),(5,[3,4,5,10,11,12]),(4,[3,4,5,10,11,12]),(3,[3,10,11,12,13]),(2,[3,10,11,12]),(1,[1,3]),(0,[1])],QY [(5,(.cons 5 true (.cons 6 true (.cons 7 true (.cons 8 true (.cons 9 true (.cons 10 true (.cons 0 false (.cons 1 false (.cons 2 false (.cons 3 false (.fork 4 (.cons 11 true (.cons 12 true (.cons 13 true (.cons 14 true (.cons 15 true .nil))))) 11 (.cons 4 true (.cons 12 true (.cons 13 true (.cons 14 true (.cons 15 true .nil))))))))))))))))),(7,(.cons 5 true (.cons 6 true (.cons 7 true (.cons 8 true (.cons 9 true (.cons 10 true (.cons 0 false (.cons 1 false (.cons 2 false (.cons 3 false (.fork 4 (.cons 11 true (.cons 12 true (.cons 13 true (.cons 14 true (.cons 15 true .nil))))) 11 (.cons 4 true (.cons 12 true (.cons 13 true (.cons 14 true (.cons 15 true .nil)))))))))))))))))],QU [(0,[[1]]),(4,[[5]])]⟩
def UX:Info:=⟨QR [(1,[4]),(0,[0,1])],QY [],QU []⟩
def z4c:Info:=⟨QR [(8,[4]),(7,[5,46,47,48]),(6,[5,46,47,48]),(5,[5,7,46,47,48]),(4,[5,46,47,48,49]),(3,[5,46,47,48]),(2,[5]),(1,[5]),(0,[0,1])],QY [(1,(.cons 18 true (.cons 19 true (.cons 0 false (.cons 1 false (.cons 2 false (.cons 3 false (.cons 4 false (.cons 5 false (.cons 6 false (.cons 7 false (.cons 8 false (.cons 9 false (.cons 10 false (.cons 11 false (.cons 12 false (.cons 13 false (.cons 14 false (.cons 15 false (.cons 16 false (.cons 17 false (.cons 20 true (.cons 21 true (.cons 22 true (.cons 23 true .nil)))))))))))))))))))))))))],QU []⟩
def q4l:Info:=⟨QR [(6,[4]),(3,[4]),(5,[4]),(4,[0,1,8]),(2,[0,1,5,6]),(1,[0,1,5]),(0,[0,1])],QY [(6,(.cons 0 true (.cons 1 true (.cons 2 true (.cons 3 true (.cons 4 true (.cons 5 true (.cons 6 true (.cons 7 true (.cons 8 true (.cons 9 true (.cons 10 true (.cons 11 true (.cons 12 true (.cons 13 true (.cons 14 true (.cons 15 true (.cons 16 true .nil))))))))))))))))))],QU []⟩
def NX:Info:=⟨QR [(11,[4]),(10,[3,5,9,10,11]),(9,[3,5,9,10,11]),(8,[3,5,8,9,10,11]),(7,[3,5,7,8,9,10,11]),(6,[3,5,7,8,9,10,11,21]),(5,[3,5,7,8,9,10,11]),(4,[3,5,7,9,10,11]),(3,[3,5,9,10,11,12]),(2,[3,5,9,10,11]),(1,[0,3,5]),(0,[0,3])],QY [(8,(.cons 0 true (.cons 1 true (.cons 2 true (.cons 4 false (.cons 5 false (.cons 6 false (.cons 3 true (.cons 8 false (.cons 7 true (.cons 9 true (.cons 10 true (.cons 11 true .nil)))))))))))))],QU [(0,[[3]]),(4,[[7]])]⟩
def q3y:Info:=⟨QR [(24,[2]),(23,[0,3,4,7,69,70]),(22,[0,3,4,7,69,70]),(21,[0,3,4,7,8,9,69,70,86,87]),(20,[0,3,4,7,8,9,69,70,86,87]),(19,[0,3,4,7,8,9,10,69,70,86,87,95]),(18,[0,3,4,7,8,9,10,69,70,86,87]),(17,[0,3,4,7,8,9,69,70,86,87,88]),(16,[0,3,4,7,8,9,69,70,86,87]),(15,[0,3,4,7,8,9,69,70]),(14,[0,3,4,7,8,69,70,84]),(13,[0,3,4,7,8,69,70]),(12,[0,3,4,7,69,70,71]),(11,[0,3,4,7,69,70]),(10,[0,3,4,7]),(9,[0,3,4,43,44,45]),(8,[0,3,4,43,44,45]),(7,[0,3,4,6,43,44,45,59]),(6,[0,3,4,6,43,44,45]),(5,[0,3,4,43,44,45,46]),(4,[0,3,4,43,44,45]),(3,[0,3,4]),(2,[0,3,4]),(1,[0,3]),(0,[0])],QY [(3,(.cons 0 true (.cons 1 true (.cons 2 true (.cons 3 true (.cons 5 true (.cons 6 true (.cons 7 true (.cons 8 true (.cons 9 true (.cons 10 true (.cons 11 true (.cons 12 true (.cons 13 true (.cons 4 false (.cons 14 true (.cons 15 true (.cons 16 true .nil)))))))))))))))))),(7,(.cons 0 true (.cons 1 true (.cons 2 true (.cons 3 true (.cons 4 true (.cons 5 true (.cons 6 true (.cons 7 true (.cons 8 true (.cons 9 true (.cons 10 true .nil))))))))))))],QU [(6,[[6]])]⟩
def z1c:Info:=⟨QR [(18,[2]),(17,[3,27,28,29]),(16,[2]),(15,[3,27,28,29,77]),(14,[3,5,27,28,29,62,63,64]),(13,[2]),(12,[3,5,27,28,29,62,63,64,71]),(11,[3,5,7,27,28,29,62,63,64]),(10,[3,5,27,28,29,62,63,64,65]),(9,[3,5,27,28,29,62,63,64]),(8,[2]),(7,[3,5,27,28,29,60]),(6,[3,5,27,28,29]),(5,[3,27,28,29,30]),(4,[3,27,28,29]),(3,[1,3]),(2,[2]),(1,[1,23]),(0,[1])],QY [],QU [(0,[[1]]),(6,[[5]]),(11,[[7]])]⟩
def x2m:Info:=⟨QR [(13,[6]),(12,[6]),(11,[36]),(10,[6]),(9,[2,3,32]),(8,[2,3,4,10,11,12]),(7,[6]),(6,[2,3,4,10,11,12,27]),(5,[6]),(4,[2,3,4,8,10,11,12,23]),(3,[2,3,4,8,10,11,12]),(2,[2,3,4,10,11,12,13]),(1,[2,3,4,10,11,12]),(0,[2,3,4])],QY [],QU [(0,[[3],[4]]),(3,[[8]])]⟩
def NR:Info:=⟨QR [(1,[2]),(0,[0,2])],QY [],QU []⟩
def BL:Info:=⟨QR [(1,[2]),(0,[0,2])],QY [],QU []⟩
def NF:Info:=⟨QR [(1,[6]),(0,[0,4,5,6])],QY [],QU [(0,[[4],[5]])]⟩
def JM:Info:=⟨QR [(6,[4]),(4,[1,2,5]),(5,[1,2,5]),(3,[1,2,5,18]),(2,[1,2,5]),(1,[1,2]),(0,[1,2])],QY [],QU [(0,[[2]])]⟩
def q9i:Info:=⟨QR [(26,[2]),(25,[1,2,3,7,57,58,59]),(24,[1,2,3,7,9,57,58,59,76,77,78]),(23,[2]),(22,[1,2,3,7,9,12,57,58,59,76,77,78,88]),(21,[1,2,3,7,9,12,57,58,59,76,77,78]),(20,[1,2,3,7,9,57,58,59,76,77,78,79]),(19,[1,2,3,7,9,57,58,59,76,77,78]),(18,[2]),(17,[1,2,3,7,8,9,57,58,59,72]),(16,[1,2,3,7,8,9,10,57,58,59]),(15,[1,2,3,7,8,9,57,58,59]),(14,[1,2,3,7,57,58,59,60]),(13,[1,2,3,7,57,58,59]),(12,[1,2,3,7]),(11,[2]),(10,[1,2,3,52]),(9,[1,2,3,6]),(8,[1,2,3,18,19,20]),(7,[1,2,3,18,19,20]),(6,[1,2,3,5,18,19,20]),(5,[1,2,3,18,19,20,21]),(4,[1,2,3,18,19,20]),(3,[1,2,3]),(2,[2]),(1,[1,2,15]),(0,[1,2])],QY [],QU [(0,[[1]]),(6,[[5]]),(15,[[9]]),(21,[[12]])]⟩
def q9a:Info:=⟨QR [(9,[2]),(8,[1,2,14,15,16]),(7,[2]),(6,[1,2,4,14,15,16,30]),(5,[1,2,4,14,15,16]),(4,[1,2,14,15,16,17]),(3,[1,2,14,15,16]),(2,[2]),(1,[1,2,8]),(0,[1,2])],QY [],QU [(0,[[1]]),(5,[[4]])]⟩
def x2j:Info:=⟨QR [(20,[2]),(19,[2,3,16,17,18]),(18,[2]),(17,[2,3,16,17,18,60]),(16,[2,3,7,16,17,18]),(15,[2,3,5,6,16,17,18,25,26,27]),(14,[2]),(13,[2,3,5,6,9,16,17,18,25,26,27,46]),(12,[2,3,5,6,7,9,16,17,18,25,26,27]),(11,[2,3,5,6,9,16,17,18,25,26,27]),(10,[2,3,5,6,16,17,18,25,26,27,28]),(9,[2,3,5,6,16,17,18,25,26,27]),(8,[2,3,4,5,6,16,17,18]),(7,[2,3,4,5,6,16,17,18]),(6,[2,3,4,5,16,17,18]),(5,[2,3,16,17,18,19]),(4,[2,3,16,17,18]),(3,[2]),(2,[1,2,3,13]),(1,[1,2,3]),(0,[1,2])],QY [],QU [(0,[[1]]),(6,[[5]]),(11,[[9]])]⟩
def x0s:Info:=⟨QR [(15,[2]),(14,[2,3,33,34,35]),(13,[2]),(12,[2,3,7,33,34,35,53]),(11,[2,3,7,33,34,35]),(10,[2,3,33,34,35,36]),(9,[2,3,33,34,35]),(8,[1,2,3,15,16,17]),(7,[1,2,3,15,16,17]),(6,[1,2,3,5,15,16,17]),(5,[1,2,3,15,16,17,18]),(4,[1,2,3,15,16,17]),(3,[1,2,3]),(2,[2]),(1,[1,2,11]),(0,[1,2])],QY [(7,(.cons 3 true (.cons 4 true (.cons 5 true (.cons 0 false (.cons 1 false (.cons 2 false (.cons 6 true (.cons 7 true .nil)))))))))],QU [(0,[[1]]),(6,[[5]]),(11,[[7]])]⟩
def x0f:Info:=⟨QR [(2,[2]),(1,[0]),(0,[0])],QY [],QU []⟩
def q1p:Info:=⟨QR [(10,[4]),(3,[4]),(5,[4]),(7,[4]),(9,[4]),(8,[0,3,20]),(6,[0,3,6,17]),(4,[0,3,6,12]),(2,[0,3,6,7]),(1,[0,3,6]),(0,[0,3])],QY [],QU [(0,[[3]])]⟩
def q1r:Info:=⟨QR [(14,[4]),(13,[0,1,5,6,27,28,29]),(12,[0,1,5,6,27,28,29,54,55,56]),(11,[0,1,5,6,27,28,29,54,55,56]),(10,[0,1,5,6,10,27,28,29,54,55,56,69]),(9,[0,1,5,6,10,27,28,29,54,55,56]),(8,[0,1,5,6,27,28,29,54,55,56,57]),(7,[0,1,5,6,27,28,29,54,55,56]),(6,[0,1,5,6,8,27,28,29,44]),(5,[0,1,5,6,8,27,28,29]),(4,[0,1,5,6,27,28,29,30]),(3,[0,1,5,6,27,28,29]),(2,[0,1,5,6]),(1,[0,1,5]),(0,[0,1])],QY [(6,(.cons 0 true (.cons 1 true (.cons 2 true (.cons 3 true (.cons 4 true (.cons 5 true (.cons 6 true (.cons 7 true (.cons 8 true (.cons 9 true (.cons 10 true (.cons 11 true .nil))))))))))))),(7,(.cons 0 true (.cons 1 true (.cons 2 true (.cons 3 true (.cons 4 true (.cons 5 true (.cons 6 true (.cons 7 true (.cons 8 true (.cons 9 true (.cons 10 true (.cons 11 true .nil)))))))))))))],QU [(2,[[6]]),(5,[[8]])]⟩
def UR:Info:=⟨QR [(9,[4]),(8,[0,1,12,13]),(7,[4]),(6,[0,1,12,13,24]),(5,[0,1,5,12,13]),(4,[0,1,12,13,14]),(3,[0,1,12,13]),(2,[4]),(1,[0,1,10]),(0,[0,1])],QY [(6,(.cons 0 true (.cons 1 true (.cons 2 true (.cons 3 true (.cons 4 true (.cons 5 true (.cons 6 true (.cons 7 true (.cons 8 true .nil))))))))))],QU []⟩
def q1g:Info:=⟨QR [(13,[4]),(12,[0,3,5,22,23,24]),(11,[0,3,5,22,23,24]),(10,[0,3,5,7,22,23,24]),(9,[0,3,5,7,22,23,24,29]),(8,[0,3,5,7,22,23,24]),(7,[0,3,5,22,23,24,25]),(6,[0,3,5,22,23,24]),(5,[4]),(4,[0,3,5,19]),(3,[0,3,5]),(2,[0,3,5,13]),(1,[0,3,5]),(0,[0,3])],QY [(13,(.cons 5 true (.cons 6 true (.cons 0 false (.cons 1 false (.cons 2 false (.cons 3 false (.cons 4 false (.cons 7 true (.cons 8 true (.cons 9 true (.cons 10 true (.cons 11 true .nil)))))))))))))],QU [(0,[[3]]),(8,[[7]])]⟩
def q3p:Info:=⟨QR [(9,[4]),(8,[0,1,5,6,27,28,29]),(7,[0,1,5,6,27,28,29]),(6,[0,1,5,6,8,27,28,29,37]),(5,[0,1,5,6,8,27,28,29]),(4,[0,1,5,6,27,28,29,30]),(3,[0,1,5,6,27,28,29]),(2,[0,1,5,6]),(1,[0,1,5]),(0,[0,1])],QY [],QU []⟩
def WM:Info:=⟨QR [(7,[4]),(6,[0,1,7,8]),(5,[4]),(4,[0,1,5,7,8,16]),(3,[0,1,5,7,8]),(2,[0,1,7,8,9]),(1,[0,1,7,8]),(0,[0,1])],QY [],QU []⟩
def PX:Info:=⟨QR [(1,[3]),(0,[1,2])],QY [],QU [(0,[[2]])]⟩
def x6y:Info:=⟨QR [(7,[2]),(2,[2]),(4,[2]),(6,[2]),(5,[17]),(3,[0,10]),(1,[0,3]),(0,[0])],QY [],QU []⟩
def z1e:Info:=⟨QR [(3,[2]),(2,[2]),(1,[0,16]),(0,[0])],QY [],QU []⟩
def GG:Info:=⟨QR [(7,[6]),(6,[1,2,3,6,7,21,22]),(5,[1,2,3,6,7,21,22]),(4,[1,2,3,6,7,8,21,22]),(3,[1,2,3,6,7,21,22,23]),(2,[1,2,3,6,7,21,22]),(1,[1,2,3,6,7]),(0,[1,2,3,6])],QY [(1,(.cons 0 false (.cons 1 false (.cons 2 false (.cons 3 false (.cons 4 false (.cons 5 false (.cons 6 false (.cons 7 false (.fork 8 (.cons 9 false (.cons 10 true (.cons 11 true .nil))) 10 (.cons 8 true (.cons 9 true (.cons 11 true .nil))))))))))))),(5,(.cons 2 true (.cons 3 true (.cons 4 true (.cons 5 true (.cons 6 true (.cons 7 true (.cons 8 true (.cons 0 false (.fork 1 (.cons 9 true (.cons 10 true (.cons 11 true (.cons 12 true (.cons 13 true .nil))))) 9 (.fork 1 (.cons 10 true (.cons 11 true (.cons 12 true (.cons 13 true .nil)))) 10 (.cons 1 true (.cons 11 true (.cons 12 true (.cons 13 true .nil)))))))))))))))],QU [(0,[[3]])]⟩
def PR:Info:=⟨QR [(3,[4]),(2,[4]),(1,[0,1,19]),(0,[0,1])],QY [(1,(.cons 0 true (.cons 1 true (.cons 2 true (.cons 3 true (.cons 4 true (.cons 5 true (.cons 6 true (.cons 7 true (.cons 8 true (.cons 9 true (.cons 10 true (.cons 11 true (.cons 12 true (.cons 13 true (.cons 14 true .nil))))))))))))))))],QU []⟩
def HW:Info:=⟨QR [(7,[2]),(6,[2,3,24,25,26]),(5,[2,3,24,25,26]),(4,[2,3,5,24,25,26]),(3,[2,3,24,25,26,27]),(2,[2,3,24,25,26]),(1,[1,2,3]),(0,[1,2])],QY [(1,(.cons 0 false (.cons 1 false (.cons 2 false (.cons 3 false (.cons 4 false (.cons 5 false (.cons 7 false (.cons 8 false (.cons 9 false (.cons 10 false (.cons 11 false (.cons 12 false (.cons 14 false (.cons 15 false (.fork 6 (.fork 13 (.cons 16 false (.cons 17 true (.cons 18 true .nil))) 17 (.cons 13 true (.cons 16 true (.cons 18 true .nil)))) 17 (.cons 6 true (.cons 13 true (.cons 16 true (.cons 18 true .nil)))))))))))))))))))),(5,(.cons 6 true (.cons 7 true (.cons 0 false (.cons 2 false (.cons 3 false (.cons 4 false (.cons 5 false (.fork 1 (.cons 8 true (.cons 9 true (.cons 10 true (.cons 11 true (.cons 12 true (.cons 13 true .nil)))))) 8 (.cons 9 true (.fork 1 (.cons 10 true (.cons 11 true (.cons 12 true (.cons 13 true .nil)))) 10 (.cons 1 true (.cons 11 true (.cons 12 true (.cons 13 true .nil)))))))))))))))],QU [(0,[[1]]),(4,[[5]])]⟩
def KL:Info:=⟨QR [(12,[4,5]),(11,[1,6,10,11,12]),(10,[1,6,10,11,12]),(9,[1,6,9,10,11,12]),(8,[1,6,8,9,10,11,12]),(7,[1,6,8,9,10,11,12]),(6,[1,6,8,9,10,11,12]),(5,[1,6,8,10,11,12]),(4,[1,6,8,10,11,12]),(3,[1,6,10,11,12,13]),(2,[1,6,10,11,12]),(1,[0,1,6]),(0,[0,1])],QY [],QU [(4,[[8]])]⟩
def q1h:Info:=⟨QR [(15,[0,1,5,11,12,13]),(14,[0,1,5,11,12,13]),(13,[0,1,5,7,10,11,12,13]),(12,[0,1,5,7,10,11,12,13]),(11,[0,1,5,7,8,10,11,12,13,57]),(10,[0,1,5,7,8,10,11,12,13]),(9,[0,1,5,7,8,9,11,12,13]),(8,[0,1,5,7,8,9,11,12,13]),(7,[0,1,5,7,8,9,11,12,13,31]),(6,[0,1,5,6,7,8,9,11,12,13]),(5,[0,1,5,6,7,8,9,11,12,13]),(4,[0,1,5,6,7,8,11,12,13]),(3,[0,1,5,6,7,11,12,13]),(2,[0,1,5,11,12,13,14]),(1,[0,1,5,11,12,13]),(0,[0,1,5])],QY [(9,(.cons 5 true (.cons 0 false (.cons 1 false (.cons 2 false (.cons 3 false (.fork 4 (.cons 6 true (.cons 7 true (.cons 8 true (.cons 9 true (.cons 10 true .nil))))) 6 (.cons 4 true (.cons 7 true (.cons 8 true (.cons 9 true (.cons 10 true .nil))))))))))))],QU [(0,[[5]]),(3,[[7]])]⟩
def US:Info:=⟨QR [(7,[4]),(6,[0,1,7,8]),(5,[4]),(4,[0,1,5,7,8,16]),(3,[0,1,5,7,8]),(2,[0,1,7,8,9]),(1,[0,1,7,8]),(0,[0,1])],QY [],QU []⟩
def PA:Info:=⟨QR [(11,[4]),(10,[0,5,17,18,19]),(9,[0,5,7,17,18,19,25,26,27]),(8,[0,5,7,17,18,19,25,26,27]),(7,[0,5,7,9,17,18,19,25,26,27]),(6,[0,5,7,17,18,19,25,26,27,28]),(5,[0,5,7,17,18,19,25,26,27]),(4,[0,5,7,17,18,19]),(3,[0,5,17,18,19,20]),(2,[0,5,17,18,19]),(1,[0,1,5]),(0,[0,1])],QY [],QU [(4,[[7]])]⟩
def HD:Info:=⟨QR [(1,[4]),(0,[0,1])],QY [(1,(.cons 4 true (.cons 5 true (.cons 0 false (.cons 1 false (.cons 2 false (.cons 3 false (.cons 6 true (.cons 7 true (.cons 8 true .nil))))))))))],QU []⟩
def BD:Info:=⟨QR [(13,[4]),(12,[5]),(11,[0,5,6,17,18,19]),(10,[0,5,6,17,18,19]),(9,[0,5,6,8,17,18,19]),(8,[0,5,6,8,17,18,19,32]),(7,[0,5,6,8,17,18,19]),(6,[0,5,6,17,18,19,20]),(5,[0,5,6,17,18,19]),(4,[0,1,5,6]),(3,[0,1,5]),(2,[4]),(1,[0,1,10]),(0,[0,1])],QY [],QU []⟩
def q6y:Info:=⟨QR [(1,[2]),(0,[0])],QY [(1,(.cons 0 true (.cons 2 false (.cons 3 false (.cons 4 false (.cons 5 false (.cons 1 true (.cons 6 true (.cons 7 true (.cons 8 true .nil))))))))))],QU []⟩
def BV:Info:=⟨QR [(18,[2]),(8,[0,3,4,5,6]),(17,[0,3,4,5,6,8,60,61,62]),(16,[0,3,4,5,6,8,60,61,62]),(15,[0,3,4,5,6,8,10,60,61,62]),(14,[0,3,4,5,6,8,60,61,62,63]),(13,[0,3,4,5,6,8,60,61,62]),(12,[0,3,4,5,6,7,8]),(11,[0,3,4,5,6,7]),(10,[0,3,4,5,6]),(9,[0,3,4,5,6,40]),(7,[0,3,4,5,6,31]),(6,[0,3,4,5,6]),(5,[0,3,4,5]),(4,[0,3,4]),(3,[0,3]),(2,[2]),(1,[0,12]),(0,[0])],QY [(11,(.cons 5 true (.cons 6 true (.cons 7 true (.cons 8 true (.cons 0 false (.cons 1 false (.cons 2 false (.cons 3 false (.cons 4 false (.cons 9 true (.cons 10 true (.cons 11 true .nil)))))))))))))],QU []⟩
def FP:Info:=⟨QR [(7,[4]),(6,[0,5,8,9,10]),(5,[0,5,8,9,10]),(4,[0,5,7,8,9,10]),(3,[0,5,8,9,10,11]),(2,[0,5,8,9,10]),(1,[0,1,5]),(0,[0,1])],QY [(5,(.cons 1 true (.cons 2 true (.cons 3 true (.cons 0 false (.cons 5 false (.cons 6 false (.cons 7 false (.cons 4 true (.cons 8 true (.cons 9 true (.cons 10 true (.cons 11 true (.cons 12 true .nil))))))))))))))],QU [(4,[[7]])]⟩
def z2z:Info:=⟨QR [(2,[4]),(1,[6]),(0,[0,1])],QY [],QU []⟩
def q8f:Info:=⟨QR [(8,[2]),(7,[3,6,7,8]),(6,[2]),(5,[3,5,6,7,8,14]),(4,[3,5,6,7,8]),(3,[3,6,7,8,9]),(2,[3,6,7,8]),(1,[0,3]),(0,[0])],QY [],QU []⟩
def PK:Info:=⟨QR [(13,[4]),(12,[4]),(11,[19]),(10,[4]),(9,[0,1,16]),(8,[4]),(7,[0,1,13]),(6,[4]),(5,[4]),(4,[12]),(3,[0,1,6,11]),(2,[0,1,5,6]),(1,[0,1,5]),(0,[0,1])],QY [],QU []⟩
def x6q:Info:=⟨QR [(3,[2]),(2,[2]),(1,[0,4]),(0,[0])],QY [],QU []⟩
def x2w:Info:=⟨QR [(7,[2]),(6,[5,6,7]),(5,[2]),(4,[5,6,7,13]),(3,[4,5,6,7]),(2,[5,6,7,8]),(1,[5,6,7]),(0,[0])],QY [],QU []⟩
def JW:Info:=⟨QR [(12,[6]),(11,[0,2,16,17,18]),(10,[6]),(9,[0,2,16,17,18,69]),(8,[6]),(7,[0,2,8,16,17,18,53]),(6,[0,2,8,16,17,18]),(5,[0,2,8,16,17,18]),(4,[0,2,16,17,18,19]),(3,[0,2,16,17,18]),(2,[6]),(1,[0,1,2,15]),(0,[0,1,2])],QY [(7,(.cons 0 true (.cons 1 true (.cons 2 true (.cons 3 true (.cons 4 true (.cons 5 true (.cons 6 true (.cons 7 true (.cons 8 true (.cons 9 true (.cons 10 true (.cons 11 true (.cons 12 true (.cons 13 true (.cons 14 true (.cons 15 true (.cons 16 true (.cons 17 true (.cons 18 true (.cons 19 true (.cons 20 true (.cons 21 true (.cons 22 true (.cons 23 true (.cons 24 true .nil))))))))))))))))))))))))))],QU [(5,[[8]])]⟩
def q8s:Info:=⟨QR [(7,[2]),(6,[0,5,6,7]),(5,[2]),(4,[0,5,6,7,16]),(3,[0,3,4,5,6,7]),(2,[0,5,6,7,8]),(1,[0,5,6,7]),(0,[0])],QY [],QU []⟩
def x7u:Info:=⟨QR [(7,[2]),(6,[1,3,7,8,9]),(5,[1,3,7,8,9]),(4,[1,3,5,7,8,9]),(3,[1,3,7,8,9,10]),(2,[1,3,7,8,9]),(1,[1,3]),(0,[1])],QY [],QU [(0,[[1]]),(4,[[5]])]⟩
def WE:Info:=⟨QR [(1,[4]),(0,[0,1])],QY [],QU []⟩
def q2m:Info:=⟨QR [(1,[3]),(0,[0,1])],QY [],QU []⟩
def q5u:Info:=⟨QR [(1,[4]),(0,[0,1])],QY [(1,(.cons 0 true (.cons 1 true (.cons 2 true (.cons 3 true (.cons 4 true (.cons 5 true (.cons 6 true (.cons 7 true (.cons 8 true (.cons 9 true (.cons 10 true (.cons 11 true (.cons 12 true (.cons 13 true (.cons 14 true (.cons 15 true (.cons 16 true (.cons 17 true (.cons 18 true (.cons 19 true (.cons 20 true (.cons 21 true .nil)))))))))))))))))))))))],QU []⟩
def q9u:Info:=⟨QR [(7,[8]),(6,[2,4,5,7,12,13,14]),(5,[8]),(4,[2,4,5,7,12,13,14,22]),(3,[2,4,5,7,10,12,13,14]),(2,[2,4,5,7,12,13,14,15]),(1,[2,4,5,7,12,13,14]),(0,[2,4,5,7])],QY [],QU [(0,[[4],[5],[7]])]⟩
def x3f:Info:=⟨QR [(9,[4]),(8,[3,11,12,13]),(7,[4]),(6,[3,6,11,12,13,21]),(5,[3,6,11,12,13]),(4,[3,11,12,13,14]),(3,[3,11,12,13]),(2,[4]),(1,[2,3,9]),(0,[2,3])],QY [],QU [(0,[[2],[3]]),(5,[[6]])]⟩
def q0g:Info:=⟨QR [(3,[2]),(2,[2]),(1,[1,6]),(0,[1])],QY [],QU [(0,[[1]])]⟩
def x5e:Info:=⟨QR [(8,[4,5]),(7,[0,8,9,10]),(6,[0,8,9,10]),(5,[4,5]),(4,[0,7,8,9,10,16]),(3,[0,7,8,9,10]),(2,[0,8,9,10,11]),(1,[0,8,9,10]),(0,[0,1])],QY [],QU []⟩
def x1t:Info:=⟨QR [(8,[4]),(4,[4]),(7,[4]),(6,[6]),(5,[0,3,16]),(3,[0,3,9,10]),(2,[0,3,9,10]),(1,[0,3,9]),(0,[0,3])],QY [],QU [(0,[[3]])]⟩
def q5d:Info:=⟨QR [(20,[4]),(19,[6]),(18,[2,5,6,21,22,23]),(17,[2,5,6,21,22,23,31,32,33]),(16,[2,5,6,21,22,23,31,32,33,39,40,41]),(15,[2,5,6,21,22,23,31,32,33,39,40,41]),(14,[2,5,6,12,21,22,23,31,32,33,39,40,41,48]),(13,[2,5,6,12,21,22,23,31,32,33,39,40,41]),(12,[2,5,6,21,22,23,31,32,33,39,40,41,42]),(11,[2,5,6,21,22,23,31,32,33,39,40,41]),(10,[2,5,6,10,21,22,23,31,32,33]),(9,[2,5,6,21,22,23,31,32,33,34]),(8,[2,5,6,21,22,23,31,32,33]),(7,[2,5,6,8,21,22,23]),(6,[2,5,6,21,22,23,24]),(5,[2,5,6,21,22,23]),(4,[1,2,5,6]),(3,[1,2,5]),(2,[4]),(1,[1,2,16]),(0,[1,2])],QY [],QU [(0,[[2]]),(10,[[10]])]⟩
def q6g:Info:=⟨QR [(10,[4]),(9,[1,2,5,9,10,11]),(8,[1,2,5,9,10,11]),(7,[4]),(6,[1,2,5,7,9,10,11,34]),(5,[1,2,5,7,9,10,11,17]),(4,[1,2,5,7,9,10,11]),(3,[1,2,5,9,10,11,12]),(2,[1,2,5,9,10,11]),(1,[1,2,5]),(0,[1,2])],QY [],QU [(0,[[2]]),(4,[[7]])]⟩
def PY:Info:=⟨QR [(17,[4]),(16,[0,5,70,71,72]),(15,[0,5,70,71,72]),(14,[0,5,10,70,71,72,78]),(13,[0,5,10,70,71,72]),(12,[0,5,70,71,72,73]),(11,[0,5,70,71,72]),(10,[0,5,6,23,24,25]),(9,[0,5,6,23,24,25]),(8,[0,5,6,8,23,24,25,57]),(7,[0,5,6,7,8,23,24,25]),(6,[0,5,6,23,24,25,26]),(5,[0,5,6,23,24,25]),(4,[0,3,5,6]),(3,[0,3,5]),(2,[0,3,5,13]),(1,[0,3,5]),(0,[0,3])],QY [(8,(.cons 0 true (.cons 1 true (.cons 2 true (.cons 3 true (.cons 4 true (.cons 5 true (.cons 6 true (.cons 7 true (.cons 8 true (.cons 9 true (.cons 10 true (.cons 11 true (.cons 12 true (.cons 13 true (.cons 14 true (.cons 15 true (.cons 16 true (.cons 17 true (.cons 18 true (.cons 19 true (.cons 20 true (.cons 21 true (.cons 22 true (.cons 23 true (.cons 24 true (.cons 25 true (.cons 26 true (.cons 27 true .nil)))))))))))))))))))))))))))))],QU [(0,[[3]]),(7,[[8]])]⟩
def q2l:Info:=⟨QR [(1,[4]),(0,[0,1])],QY [(1,(.cons 4 true (.cons 5 true (.cons 0 false (.cons 1 false (.cons 2 false (.cons 3 false (.cons 6 true (.cons 7 true (.cons 8 true (.cons 9 true .nil)))))))))))],QU []⟩
def NQ:Info:=⟨QR [(1,[4]),(0,[0,1])],QY [],QU []⟩
def WH:Info:=⟨QR [(1,[4]),(0,[0,3])],QY [],QU [(0,[[3]])]⟩
def q0i:Info:=⟨QR [(3,[2]),(2,[2]),(1,[1,5]),(0,[1])],QY [],QU [(0,[[1]])]⟩
def MU:Info:=⟨QR [(1,[4]),(0,[0,3])],QY [(1,(.cons 0 true (.cons 1 true (.cons 2 true (.cons 3 true (.cons 4 true (.cons 5 true (.cons 6 true (.cons 7 true .nil)))))))))],QU [(0,[[3]])]⟩
def q8h:Info:=⟨QR [(7,[2]),(6,[3,14,15,16]),(5,[3,14,15,16]),(4,[3,5,14,15,16]),(3,[3,14,15,16,17]),(2,[3,14,15,16]),(1,[0,3]),(0,[0])],QY [(5,(.cons 8 true (.cons 9 true (.cons 0 false (.cons 1 false (.cons 2 false (.cons 3 false (.cons 4 false (.cons 5 false (.cons 6 false (.cons 7 false (.cons 10 true (.cons 11 true (.cons 12 true (.cons 13 true .nil)))))))))))))))],QU [(4,[[5]])]⟩
def UT:Info:=⟨QR [(3,[2]),(2,[2]),(1,[0,4]),(0,[0])],QY [],QU []⟩
def MO:Info:=⟨QR [(22,[8]),(21,[0,1,2,3,9,10,11,87,88,89]),(20,[0,1,2,3,9,10,11,87,88,89]),(19,[0,1,2,3,9,10,11,15,87,88,89]),(18,[0,1,2,3,9,10,11,15,87,88,89,97]),(17,[0,1,2,3,9,10,11,15,87,88,89]),(16,[0,1,2,3,9,10,11,87,88,89,90]),(15,[0,1,2,3,9,10,11,87,88,89]),(14,[0,1,2,3,9,10,11,12,83]),(13,[8]),(12,[0,1,2,3,9,10,11,12,13,73]),(11,[0,1,2,3,9,10,11,12,13]),(10,[0,1,2,3,9,10,11,12,60]),(9,[8]),(8,[0,1,2,3,9,10,11,58]),(7,[0,1,2,3,9,10,11,12,49]),(6,[0,1,2,3,9,10,11,12]),(5,[0,1,2,3,9,10,11,12]),(4,[0,1,2,3,9,10,11,31]),(3,[0,1,2,3,9,10,11]),(2,[0,1,2,3,9,10]),(1,[0,1,2,3,9]),(0,[0,1,2,3])],QY [],QU []⟩
def x1c:Info:=⟨QR [(1,[2]),(0,[0])],QY [],QU []⟩
def z6z:Info:=⟨QR [(3,[4]),(2,[0,1]),(1,[0,1,20]),(0,[0,1])],QY [],QU []⟩
def z1a:Info:=⟨QR [(16,[2]),(15,[2]),(14,[4]),(13,[3,4]),(12,[3,4]),(11,[3,4]),(10,[3,4]),(9,[3,4]),(8,[3,4]),(7,[3,4]),(6,[3,4]),(5,[3,4]),(4,[3,4]),(3,[3,4]),(2,[3,4]),(1,[3]),(0,[0])],QY [],QU []⟩
def KM:Info:=⟨QR [(7,[2]),(6,[1,2,3,14,15]),(5,[1,2,3,14,15]),(4,[1,2,3,4,14,15]),(3,[1,2,3,14,15,16]),(2,[1,2,3,14,15]),(1,[1,2,3]),(0,[1,2])],QY [(5,(.cons 2 true (.cons 3 true (.cons 4 true (.cons 5 true (.cons 6 true (.cons 0 false (.fork 1 (.cons 7 true (.cons 8 true (.cons 9 true (.cons 10 true (.cons 11 true .nil))))) 7 (.fork 1 (.cons 8 true (.cons 9 true (.cons 10 true (.cons 11 true .nil)))) 8 (.cons 1 true (.cons 9 true (.cons 10 true (.cons 11 true .nil)))))))))))))],QU [(0,[[1]])]⟩
def q3g:Info:=⟨QR [(9,[6,7]),(8,[6,7]),(7,[37]),(6,[0,1,2,12,13,14]),(5,[6,7]),(4,[0,1,2,9,12,13,14,22]),(3,[0,1,2,9,12,13,14]),(2,[0,1,2,12,13,14,15]),(1,[0,1,2,12,13,14]),(0,[0,1,2])],QY [],QU [(3,[[9]])]⟩
def x5d:Info:=⟨QR [(12,[2]),(11,[3,21,22,23]),(10,[3,21,22,23]),(9,[3,7,21,22,23]),(8,[3,21,22,23,24]),(7,[3,21,22,23]),(6,[1,3,9,10,11]),(5,[1,3,9,10,11]),(4,[1,3,5,9,10,11]),(3,[1,3,9,10,11,12]),(2,[1,3,9,10,11]),(1,[1,3]),(0,[1])],QY [],QU [(0,[[1]]),(4,[[5]]),(9,[[7]])]⟩
def MF:Info:=⟨QR [(15,[4]),(3,[4]),(5,[4]),(7,[4]),(9,[4]),(11,[4]),(14,[4]),(13,[5]),(12,[0,3,58]),(10,[0,3,9,55]),(8,[0,3,9,50]),(6,[0,3,9,37]),(4,[0,3,9,25]),(2,[0,3,9,10]),(1,[0,3,9]),(0,[0,3])],QY [(3,(.cons 0 true (.cons 1 true (.cons 2 true (.cons 3 true (.cons 4 true (.cons 6 false (.cons 7 false (.cons 8 false (.cons 9 false (.cons 10 false (.cons 5 true (.cons 11 true (.cons 12 true (.cons 13 true .nil))))))))))))))),(5,(.cons 0 true (.cons 1 true (.cons 2 true (.cons 3 true (.cons 4 true (.cons 5 true (.cons 7 false (.cons 8 false (.cons 6 true (.cons 9 true (.cons 10 true .nil)))))))))))),(7,(.cons 0 true (.cons 1 true (.cons 2 true (.cons 3 true (.cons 4 true (.cons 5 true (.cons 6 true (.cons 7 true (.cons 8 true (.cons 9 true (.cons 10 true (.cons 11 true .nil)))))))))))))],QU [(0,[[3]])]⟩
def x7k:Info:=⟨QR [(2,[2]),(1,[0]),(0,[0])],QY [],QU []⟩
def x5y:Info:=⟨QR [(9,[4]),(8,[5,20,21,22]),(7,[5,20,21,22]),(6,[5,7,20,21,22]),(5,[5,20,21,22,23]),(4,[5,20,21,22]),(3,[1,5]),(2,[4]),(1,[0,1,13]),(0,[0,1])],QY [(3,(.cons 0 false (.cons 2 false (.fork 1 (.cons 3 true (.cons 4 true (.cons 5 true (.cons 6 true .nil)))) 3 (.cons 1 true (.cons 4 true (.cons 5 true (.cons 6 true .nil))))))))],QU [(3,[[19]]),(6,[[7]])]⟩
def JI:Info:=⟨QR [(1,[4]),(0,[0,1])],QY [],QU []⟩
def x3k:Info:=⟨QR [(11,[6]),(3,[0,1,2,7]),(10,[0,1,2,7,22,23,24]),(9,[0,1,2,7,22,23,24]),(8,[0,1,2,7,9,22,23,24]),(7,[0,1,2,7,9,22,23,24,32]),(6,[0,1,2,7,9,22,23,24]),(5,[0,1,2,7,22,23,24,25]),(4,[0,1,2,7,22,23,24]),(2,[0,1,2,7,13]),(1,[0,1,2,7]),(0,[0,1,2])],QY [],QU []⟩
def q6z:Info:=⟨QR [(8,[2]),(7,[3,6,7,8]),(6,[3,6,7,8]),(5,[3,4,6,7,8,13]),(4,[3,4,5,6,7,8]),(3,[3,6,7,8,9]),(2,[3,6,7,8]),(1,[0,3]),(0,[0])],QY [],QU []⟩
def PJ:Info:=⟨QR [(1,[4]),(0,[0,1])],QY [],QU []⟩
def MR:Info:=⟨QR [(12,[2]),(11,[0,3,9,10,11]),(10,[0,3,9,10,11,15,16,17]),(9,[0,3,9,10,11,15,16,17]),(8,[0,3,7,9,10,11,15,16,17,34]),(7,[0,3,7,9,10,11,15,16,17]),(6,[0,3,9,10,11,15,16,17,18]),(5,[0,3,9,10,11,15,16,17]),(4,[0,3,5,9,10,11]),(3,[0,3,9,10,11,12]),(2,[0,3,9,10,11]),(1,[0,3]),(0,[0])],QY [],QU []⟩
def NT:Info:=⟨QR [(21,[2]),(20,[0,3,4,5,6,26,27]),(19,[0,3,4,5,6,26,27]),(18,[0,3,4,5,6,9,26,27]),(17,[0,3,4,5,6,9,26,27,96]),(16,[0,3,4,5,6,9,26,27]),(15,[0,3,4,5,6,8,9,26,27]),(14,[0,3,4,5,6,26,27]),(13,[0,3,4,5,6,26,27]),(12,[0,3,4,5,6,8,26,27,63]),(11,[0,3,4,5,6,8,26,27]),(10,[0,3,4,5,6,26,27,44]),(9,[0,3,4,5,6,26,27]),(8,[0,3,4,5,6,7,26,27]),(7,[0,3,4,5,6,7,26,27,34]),(6,[0,3,4,5,6,7,26,27]),(5,[0,3,4,5,6,26,27,28]),(4,[0,3,4,5,6,26,27]),(3,[0,3,4,5,6]),(2,[0,3,4,5]),(1,[0,3,4]),(0,[0])],QY [(12,(.cons 0 true (.cons 1 true (.cons 2 true (.cons 3 true (.cons 4 true (.cons 5 true (.cons 6 true (.cons 7 true (.cons 8 true (.cons 9 true (.cons 10 true (.cons 11 true (.cons 12 true .nil)))))))))))))),(15,(.cons 0 true (.cons 1 true (.cons 2 true (.cons 3 true (.cons 4 true (.cons 5 true (.cons 6 true (.cons 7 true (.cons 8 true (.cons 9 true (.cons 10 true (.cons 11 true (.cons 12 true (.cons 13 true .nil)))))))))))))))],QU []⟩
def FD:Info:=⟨QR [(8,[2]),(6,[0,3,4]),(7,[0,3,4]),(5,[0,3,4,15]),(4,[0,3,4]),(3,[0,3]),(2,[0]),(1,[0,7]),(0,[0])],QY [],QU []⟩
def HH:Info:=⟨QR [(7,[4]),(2,[4]),(4,[4]),(6,[4]),(5,[0,1,16]),(3,[0,1,8]),(1,[0,1,5]),(0,[0,1])],QY [(5,(.cons 0 true (.cons 1 true (.cons 2 true (.cons 3 true (.cons 4 true (.cons 5 true (.cons 6 true (.cons 7 true (.cons 8 true (.cons 9 true (.cons 10 true (.cons 11 true (.cons 12 true (.cons 13 true (.cons 14 true (.cons 15 true (.cons 16 true (.cons 17 true (.cons 18 true (.cons 19 true (.cons 20 true (.cons 21 true (.cons 22 true (.cons 23 true (.cons 24 true (.cons 25 true (.cons 26 true (.cons 27 true (.cons 28 true (.cons 29 true (.cons 30 true (.cons 31 true (.cons 32 true .nil)))))))))))))))))))))))))))))))))),(6,(.cons 0 true (.cons 1 true (.cons 2 true (.cons 3 true (.cons 4 true (.cons 5 true (.cons 6 true (.cons 7 true (.cons 8 true (.cons 9 true (.cons 10 true (.cons 11 true (.cons 12 true (.cons 13 true (.cons 14 true (.cons 15 true (.cons 16 true .nil))))))))))))))))))],QU []⟩
def WI:Info:=⟨QR [(8,[4,5]),(6,[0,1,6,7,8]),(7,[0,1,6,7,8]),(5,[0,1,6,7,8,9,27]),(4,[0,1,6,7,8,9]),(3,[0,1,6,7,8,15]),(2,[0,1,6,7,8]),(1,[0,1,6]),(0,[0,1])],QY [],QU []⟩
def q1c:Info:=⟨QR [(1,[2]),(0,[0])],QY [],QU []⟩
def BO:Info:=⟨QR [(1,[2]),(0,[0])],QY [],QU []⟩
def q8j:Info:=⟨QR [(26,[2]),(25,[2]),(24,[1,89]),(23,[2]),(22,[1,3,4,5,70]),(6,[1,3,4,5,6,7,8,9]),(9,[1,3,4,5,6,7,8,9]),(11,[1,3,4,5,6,7,8,9]),(13,[1,3,4,5,6,7,8,9]),(15,[1,3,4,5,6,7,8,9]),(17,[1,3,4,5,6,7,8,9]),(19,[1,3,4,5,6,7,8,9]),(4,[2]),(21,[1,3,4,5,6,7,8,9,37]),(20,[1,3,4,5,6,7,8,9,16,37]),(18,[1,3,4,5,6,7,8,9,16,33]),(16,[1,3,4,5,6,7,8,9,16,31]),(14,[1,3,4,5,6,7,8,9,16,29]),(12,[1,3,4,5,6,7,8,9,16,24]),(10,[1,3,4,5,6,7,8,9,16,22]),(8,[1,3,4,5,6,7,8,9,16,19]),(7,[1,3,4,5,6,7,8,9,16,19]),(5,[1,3,4,5,6,7,8,9,16,17]),(3,[1,3,4,5,6,7,8,9,16]),(2,[1,3,4,5,6,7,8,9]),(1,[1,3,4,5,6,7,8]),(0,[1])],QY [(1,(.cons 0 true (.cons 1 true (.cons 2 true (.cons 3 true (.cons 4 true (.cons 5 true (.cons 6 true (.cons 7 true .nil)))))))))],QU [(0,[[1]])]⟩
def VC:Info:=⟨QR [(7,[4]),(6,[0,1,7,8]),(5,[4]),(4,[0,1,5,7,8,16]),(3,[0,1,5,7,8]),(2,[0,1,7,8,9]),(1,[0,1,7,8]),(0,[0,1])],QY [],QU []⟩
def x1k:Info:=⟨QR [(12,[2]),(11,[3,25,26,27]),(10,[3,25,26,27]),(9,[3,5,25,26,27]),(8,[3,5,25,26,27,32]),(7,[3,5,25,26,27]),(6,[3,25,26,27,28]),(5,[3,25,26,27]),(4,[1,3]),(3,[1,3]),(2,[1,3,13]),(1,[1,3]),(0,[1])],QY [],QU [(0,[[1]]),(7,[[5]])]⟩
def x3d:Info:=⟨QR [(9,[4]),(8,[1,12,13,14]),(7,[4]),(6,[1,12,13,14,26]),(5,[1,5,6,12,13,14]),(4,[1,12,13,14,15]),(3,[1,12,13,14]),(2,[4]),(1,[0,1,11]),(0,[0,1])],QY [(6,(.cons 0 true (.cons 1 true (.cons 2 true (.cons 3 true (.cons 4 true (.cons 5 true (.cons 6 true (.cons 7 true .nil)))))))))],QU [(5,[[6]])]⟩
def x0w:Info:=⟨QR [(1,[4]),(0,[2,3])],QY [],QU [(0,[[2],[3]])]⟩
def x5s:Info:=⟨QR [(12,[4]),(11,[5]),(4,[0,5,6]),(10,[0,5,6,22,23,24]),(9,[0,5,6,22,23,24]),(8,[0,5,6,8,22,23,24,31]),(7,[0,5,6,8,22,23,24]),(6,[0,5,6,22,23,24,25]),(5,[0,5,6,22,23,24]),(3,[0,5,6,14]),(2,[0,5,6]),(1,[0,5]),(0,[0,1])],QY [],QU []⟩
def VV:Info:=⟨QR [(7,[4]),(6,[0,3,7,8]),(5,[4]),(4,[0,3,5,7,8,16]),(3,[0,3,5,7,8]),(2,[0,3,7,8,9]),(1,[0,3,7,8]),(0,[0,3])],QY [(4,(.cons 0 true (.cons 1 true (.cons 2 true (.cons 3 true (.cons 4 true (.cons 5 true .nil)))))))],QU [(0,[[3]])]⟩
def q8a:Info:=⟨QR [(8,[4]),(7,[1,23,24,25]),(6,[1,23,24,25]),(5,[1,6,23,24,25]),(4,[1,23,24,25,26]),(3,[1,23,24,25]),(2,[1,2]),(1,[1,2,16]),(0,[1,2])],QY [],QU [(0,[[2]]),(5,[[6]])]⟩
def x5h:Info:=⟨QR [(1,[2]),(0,[0])],QY [],QU []⟩
def x6l:Info:=⟨QR [(3,[4]),(2,[4]),(1,[0,1,7]),(0,[0,1])],QY [],QU []⟩
def q9l:Info:=⟨QR [(1,[4]),(0,[2,3])],QY [(1,(.cons 0 true (.cons 1 true (.cons 3 false (.cons 4 false (.cons 7 false (.cons 8 false (.cons 10 false (.cons 11 false (.cons 14 false (.cons 15 false (.cons 16 false (.cons 17 false (.cons 2 true (.cons 5 true (.cons 6 true (.cons 9 true (.cons 12 true (.cons 13 true (.cons 18 true (.cons 19 true (.cons 20 true (.cons 21 true .nil)))))))))))))))))))))))],QU [(0,[[2],[3]])]⟩
def WX:Info:=⟨QR [(16,[4]),(5,[0,1,5]),(15,[4]),(14,[0,5]),(10,[0,1,5,6,7]),(13,[0,1,5,6,7]),(12,[0,1,5,6,7]),(11,[0,1,5,6,7,49]),(9,[0,1,5,6,7,35]),(8,[0,1,5,6,7]),(7,[0,1,5,6]),(6,[0,1,5,28]),(4,[0,1,5,15]),(3,[0,1,5]),(2,[4]),(1,[0,1,10]),(0,[0,1])],QY [(6,(.cons 0 true (.cons 1 true (.cons 2 true (.cons 3 true (.cons 4 true (.cons 5 true (.cons 6 true (.cons 7 true (.cons 8 true (.cons 9 true (.cons 10 true .nil)))))))))))),(11,(.cons 0 true (.cons 1 true (.cons 2 true (.cons 3 true (.cons 4 true (.cons 5 true (.cons 6 true (.cons 7 true (.cons 8 true (.cons 9 true (.cons 10 true (.cons 11 true .nil)))))))))))))],QU []⟩
def q8m:Info:=⟨QR [(1,[4]),(0,[2,3])],QY [],QU [(0,[[2],[3]])]⟩
def LQ:Info:=⟨QR [(9,[6]),(8,[]),(7,[0,1,2,7]),(6,[0,1,2]),(5,[6]),(4,[0,1,2,7,31]),(3,[0,1,2,7,8]),(2,[6]),(1,[0,1,2,18]),(0,[0,1,2])],QY [(6,(.cons 13 true (.cons 0 false (.cons 1 false (.cons 2 false (.cons 3 false (.cons 4 false (.cons 5 false (.cons 6 false (.cons 7 false (.cons 8 false (.cons 9 false (.cons 10 false (.cons 11 false (.cons 12 false (.cons 14 true (.cons 15 true (.cons 16 true (.cons 17 true .nil))))))))))))))))))),(8,(.cons 13 true (.cons 0 false (.cons 1 false (.cons 2 false (.cons 3 false (.cons 4 false (.cons 5 false (.cons 6 false (.cons 7 false (.cons 8 false (.cons 9 false (.cons 10 false (.cons 11 false (.cons 12 false (.cons 14 true (.cons 15 true (.cons 16 true (.cons 17 true .nil)))))))))))))))))))],QU []⟩
def HZ:Info:=⟨QR [(1,[2]),(0,[0])],QY [],QU []⟩
def x4m:Info:=⟨QR [(1,[4]),(0,[0,1])],QY [],QU []⟩
def x2l:Info:=⟨QR [(1,[4]),(0,[1,2])],QY [],QU [(0,[[2]])]⟩
def q9p:Info:=⟨QR [(7,[2]),(6,[5,6,7]),(5,[2]),(4,[5,6,7,25]),(3,[4,5,6,7]),(2,[5,6,7,8]),(1,[5,6,7]),(0,[0])],QY [],QU [(3,[[4]])]⟩
def ZR:Info:=⟨QR [(1,[4]),(0,[0,1])],QY [],QU []⟩
def q3j:Info:=⟨QR [(1,[3]),(0,[1,2])],QY [],QU [(0,[[2]])]⟩
def q8l:Info:=⟨QR [(9,[4]),(8,[5]),(7,[5,12,13,14]),(6,[5,12,13,14]),(5,[5,7,12,13,14,21]),(4,[5,7,12,13,14]),(3,[5,12,13,14,15]),(2,[5,12,13,14]),(1,[0,1,5]),(0,[0,1])],QY [],QU [(4,[[7]])]⟩
def x6s:Info:=⟨QR [(1,[2]),(0,[1])],QY [],QU [(0,[[1]])]⟩
abbrev Str:=List UInt8
inductive X where
 | mk (op n:Int) (name:Str) (kids:List X)
namespace X
def op:X->Int | .mk a _ _ _=>a
def n:X->Int | .mk _ a _ _=>a
def name:X->Str | .mk _ _ a _=>a
def kids:X->List X | .mk _ _ _ a=>a
end X
structure Arg where
 ref:Bool
 name:Str
 x:X
inductive S where
 | mk (id kind:Int) (labels:List Str) (name proc:Str) (x:X) (has:Bool) (args:List Arg) (thn els:List S)
namespace S
def id:S->Int | .mk a _ _ _ _ _ _ _ _ _=>a
def kind:S->Int | .mk _ a _ _ _ _ _ _ _ _=>a
def labels:S->List Str | .mk _ _ a _ _ _ _ _ _ _=>a
def name:S->Str | .mk _ _ _ a _ _ _ _ _ _=>a
def proc:S->Str | .mk _ _ _ _ a _ _ _ _ _=>a
def x:S->X | .mk _ _ _ _ _ a _ _ _ _=>a
def has:S->Bool | .mk _ _ _ _ _ _ a _ _ _=>a
def args:S->List Arg | .mk _ _ _ _ _ _ _ a _ _=>a
def thn:S->List S | .mk _ _ _ _ _ _ _ _ a _=>a
def els:S->List S | .mk _ _ _ _ _ _ _ _ _ a=>a
end S
structure Param where
 name:Str
 ref:Bool
structure Pr where
 name:Str
 params:List Param
 vars:List Str
 body:List S
 fin:List Str
structure Pg where
 globals:List Str
 procs:List Pr
structure Step where
 src:Int
 dst:Int
 kind:Int
 deriving DecidableEq
def eStrs (l:List Str):AV := .sl (l.map .str)
def UY (l:List Int):AV := .sl (l.map (.int .i64))
mutual
def X.av:X->AV
 | .mk op n name kids => .agg [.int .i64 op,.int .i64 n,.str name,.sl (X.avs kids)]
def X.avs:List X->List AV
 | []=>[]
 | x::r=>X.av x::X.avs r
end
def X.cells (x:X):List AV:=[.int .i64 x.op,.int .i64 x.n,.str x.name,.sl (X.avs x.kids)]
theorem X.av_eq (x:X):x.av = .agg x.cells:=by cases x;simp only [X.av,X.cells,X.op,X.n,X.name,X.kids]
theorem X.avs_eq : ∀ l:List X,X.avs l=l.map fun x => .agg x.cells
 | []=>by simp only [X.avs,map_nil]
 | x::r=>by simp only [X.avs,X.av_eq,X.avs_eq r,map_cons]
def Arg.cells (a:Arg):List AV := .bool a.ref :: .str a.name::a.x.cells
mutual
def S.av:S->AV
 | .mk id kind labels name proc x has args thn els => .agg (.int .i64 id :: .int .i64 kind::eStrs labels :: .str name :: .str proc::(x.cells++[.bool has,.sl (args.map fun a => .agg a.cells),.sl (S.avs thn),.sl (S.avs els)]))
def S.avs:List S->List AV
 | []=>[]
 | x::r=>S.av x::S.avs r
end
def S.cells (s:S):List AV :=
 [.int .i64 s.id,.int .i64 s.kind,eStrs s.labels,.str s.name,.str s.proc,.int .i64 s.x.op,.int .i64 s.x.n,.str s.x.name,.sl (X.avs s.x.kids),.bool s.has,.sl (s.args.map fun a => .agg a.cells),.sl (S.avs s.thn),.sl (S.avs s.els)]
theorem S.av_eq (s:S):s.av = .agg s.cells:=by cases s;simp only [S.av,S.cells,X.cells,S.id,S.kind,S.labels,S.name,S.proc,S.x,S.has,S.args,S.thn,S.els,List.cons_append,List.nil_append]
theorem S.avs_eq : ∀ l:List S,S.avs l=l.map fun x => .agg x.cells
 | []=>by simp only [S.avs,map_nil]
 | x::r=>by simp only [S.avs,S.av_eq,S.avs_eq r,map_cons]
def eSs (l:List S):AV := .sl (S.avs l)
def z1q (l:List Arg):AV := .sl (l.map fun a => .agg a.cells)
def Param.cells (a:Param):List AV:=[.str a.name,.bool a.ref]
def Pr.cells (f:Pr):List AV:=[.str f.name,.sl (f.params.map fun a => .agg a.cells),eStrs f.vars,eSs f.body,eStrs f.fin]
def Pg.cells (p:Pg):List AV:=[eStrs p.globals,.sl (p.procs.map fun f => .agg f.cells)]
def Step.cells (s:Step):List AV:=[.int .i64 s.src,.int .i64 s.dst,.int .i64 s.kind]
def GT (l:List Step):AV := .sl (l.map fun s => .agg s.cells)
open Go.Proofs Go.ChangeShapes
def UZ (w:World):Mem:=fun b=>match w.heap[b]? with
 | some (.cells c _ _)=>some c
 | _=>none
theorem z2k (w:World):(UZ w).lies w:=by
 intro b c h;unfold UZ at h;split at h
 ·rename_i c' e fr hh;cases h;exact ⟨e,fr,hh⟩
 ·cases h
theorem z0t {w:World} {a:Addr} {v:Value} (h:w.cell? a=some v):a.spot=none ∧ ∃ cells,UZ w a.block=some cells∧cells[a.off]? = some v:=by
 refine ⟨World.cell?_spot h,?_⟩;unfold World.cell? at h;split at h
 ·rename_i c e fr hh;split at h
  ·cases h
  ·exact ⟨c,by unfold UZ;rw [hh],h⟩
 ·cases h
def RepCs (σ:Mem) (avs:List AV) (cs:List Value):Prop:=cs.length=avs.length ∧ ∀ (j:Nat) (c:AV),avs[j]? = some c -> ∃ u,cs[j]? = some u∧Rep σ c u
theorem RepCs.nil (σ:Mem):RepCs σ [] []:=⟨rfl,by simp⟩
theorem RepCs.one {σ:Mem} {a:AV} {v:Value} (h:Rep σ a v):RepCs σ [a] [v]:=⟨rfl,fun j c hj=>by
 cases j with
 | zero=>cases hj;exact ⟨v,rfl,h⟩
 | succ j=>simp at hj⟩
theorem RepCs.append {σ:Mem} {xs ys:List AV} {cs ds:List Value} (h:RepCs σ xs cs) (h':RepCs σ ys ds):RepCs σ (xs++ys) (cs++ds):=by
 refine ⟨by simp [h.1,h'.1],fun j c hj => ?_⟩;rw [List.getElem?_append] at hj ⊢;rw [h.1];split at hj
 ·rw [if_pos (by assumption)];exact h.2 j c hj
 ·rw [if_neg (by assumption)];exact h'.2 _ c hj
theorem RepCs.of_agg {σ:Mem} {avs:List AV} {vs:Array Value} (h:RepCs σ avs vs.toList):Rep σ (.agg avs) (.agg vs):=by
 refine .agg avs vs (fun j=>vs[j]?.getD undef) (by simpa using h.1) (fun j c hj => ?_) (fun j c hj => ?_)
 ·obtain ⟨u,h1,_⟩:=h.2 j c hj;rw [Array.getElem?_toList] at h1;simp [h1]
 ·obtain ⟨u,h1,h2⟩:=h.2 j c hj;rw [Array.getElem?_toList] at h1;simpa [h1] using h2
section
variable {H:Type} {enc:TypeId×Value->H} {P:Program} {w:World} {base:Nat} {spare:Nat->Bool} {held:Bool}
theorem q4v {t:TypeId} {n:Nat} {cs:List Value} {x:DataW H×List MemPlace} (ht:P.underlying t=some .string) (h:DataW.trod enc P w base spare held n t cs=some x) : ∃ s:Str,RepCs (UZ w) [.str s] cs:=by
 obtain ⟨s,rfl,_,h1⟩:=DataW.trod_string ht h;exact ⟨s.data.toList,.one (Rep.str (σ:=UZ w) s.data.toList (by simpa using h1))⟩
theorem x8v {t:TypeId} {n:Nat} {cs:List Value} {x:DataW H×List MemPlace} (ht:P.underlying t=some (.int .i64)) (h:DataW.trod enc P w base spare held n t cs=some x) : ∃ i:Int,RepCs (UZ w) [.int .i64 i] cs:=by
 obtain ⟨i,rfl,_⟩:=DataW.trod_int ht h;exact ⟨i,.one (.int _ _)⟩
theorem z2t {t:TypeId} {n:Nat} {cs:List Value} {x:DataW H×List MemPlace} (ht:P.underlying t=some .bool) (h:DataW.trod enc P w base spare held n t cs=some x) : ∃ b:Bool,RepCs (UZ w) [.bool b] cs:=by
 obtain ⟨b,rfl,_⟩:=DataW.trod_bool ht h;exact ⟨b,.one (.bool b)⟩
theorem RepCs.step {σ:Mem} {xs ys:List AV} {cs:List Value} {o k:Nat} (h:RepCs σ xs ((cs.drop o).take k)) (h':RepCs σ ys (cs.drop (o+k))):RepCs σ (xs++ys) (cs.drop o):=by
 have:=h.append h'
 rwa [<- List.drop_drop,List.take_append_drop] at this
theorem RepCs.fin {σ:Mem} {cs:List Value} {o:Nat} (h:cs.length=o):RepCs σ [] (cs.drop o):=by
 rw [List.drop_eq_nil_of_le (by omega)];exact .nil σ
theorem q0d {α:Type} [Inhabited α] (F:α->AV) (hspare : ∀ b,spare b=true) {t e:TypeId} {n:Nat} {cs:List Value} {x:DataW H×List MemPlace} (ht:P.underlying t=some (.slice e)) {sz:Nat} (hsz:P.cellsOf e=sz) (hF : ∀ a,(F a).cells.length=sz) (hpos:0<sz)
  (hd : ∀ m cs' y,m<n->DataW.trod enc P w base spare held m e cs'=some y -> ∃ a,RepCs (UZ w) (F a).cells cs') (h:DataW.trod enc P w base spare held n t cs=some x) : ∃ l:List α,RepCs (UZ w) [.sl (l.map F)] cs:=by
 rcases DataW.trod_slice ht h with ⟨rfl,_⟩|⟨a,len,cap,elems,rest,m,hn,rfl,_,hb,hl,hm,hlen,hel,hsp,_⟩
 ·exact ⟨[],.one .nilsl⟩
 subst hsz;have key : ∀ i,i<len -> ∃ A,∀ (j:Nat) (c:AV),(F A).cells[j]? = some c -> ∃ u,w.cell? (a.add (i*P.cellsOf e+j))=some u∧Rep (UZ w) c u:=by
  intro i hi;have h1:=hel i hi;rw [List.getElem?_eq_getElem (by omega)] at h1;obtain ⟨cs',h2,h3⟩:=Option.bind_eq_some_iff.1 h1;obtain ⟨A,h4,h5⟩:=hd m cs' _ (by omega) h3;obtain ⟨_,h6,h7⟩:=World.cells?_some h2;refine ⟨A,fun j c hj => ?_⟩;obtain ⟨u,h8,h9⟩:=h5 j c hj;have hj':j<P.cellsOf e:=by rw [<- hF A];exact (List.getElem?_eq_some_iff.1 hj).1
  have:=h7 j hj';rw [Deep.add_add] at this;exact ⟨u,this.trans h8,h9⟩
 have spot : ∀ k u,w.cell? (a.add k)=some u->(k=0->a.spot=none) ∧ ∃ cells,UZ w a.block=some cells∧cells[a.off+k]? = some u:=fun k u hk=>by
  have h1:=z0t hk;unfold Addr.add at h1;split at h1
  ·rename_i h0;subst h0;exact ⟨fun _=>h1.1,h1.2⟩
  ·exact ⟨fun h=>absurd h (by assumption),h1.2⟩
 obtain ⟨b,off,sp⟩:=a;by_cases hcap:cap=0
 ·subst hcap;obtain rfl:len=0:=by omega
  exact ⟨[],.one (.slz _)⟩
 have hmem:sp=none ∧ ∃ cells,UZ w b=some cells:=by
  by_cases hc0:len=0
  ·subst hc0;have h1:=(hsp (hspare _)).1;have h2:=(hsp (hspare _)).2 0 (by omega);rw [List.getElem?_eq_getElem (by omega)] at h2;obtain ⟨cs',h3,_⟩:=Option.bind_eq_some_iff.1 h2;obtain ⟨_,h4,h5⟩:=World.cells?_some h3;have h6:=h5 0 hpos;rw [Deep.add_add,List.getElem?_eq_getElem (by omega)] at h6;obtain ⟨h7,cells,h8,_⟩:=spot _ _ h6;exact ⟨h7 (by omega),cells,h8⟩
  ·obtain ⟨A,hA⟩:=key 0 (by omega);have hj:0<(F A).cells.length:=by rw [hF A];exact hpos
   obtain ⟨u,h1,_⟩:=hA 0 _ (List.getElem?_eq_getElem hj);obtain ⟨h7,cells,h8,_⟩:=spot _ _ h1;exact ⟨h7 (by omega),cells,h8⟩
 obtain ⟨rfl,cells,hcells⟩:=hmem;obtain ⟨f,hf⟩:=Deep.choose_lt key;refine ⟨(List.range len).map f,.one ?_⟩;have hll:(((List.range len).map f).map F).length=len:=by simp
 have hget : ∀ (i:Nat) (x:AV),(((List.range len).map f).map F)[i]? = some x->i<len∧x=F (f i):=fun i x hi=>by
  have hlt:i<len:=by rw [<- hll];exact (List.getElem?_eq_some_iff.1 hi).1
  simp [hlt] at hi;exact ⟨hlt,hi.symm⟩
 have hcell : ∀ (i:Nat) (x:AV) (j:Nat) (c:AV),(((List.range len).map f).map F)[i]? = some x->x.cells[j]? = some c -> ∃ u,cells[off+i*P.cellsOf e+j]? = some u∧Rep (UZ w) c u:=fun i x j c hi hj=>by
  obtain ⟨hlt,rfl⟩:=hget i x hi;obtain ⟨u,h1,h2⟩:=hf i hlt j c hj;obtain ⟨_,cells',h3,h4⟩:=spot _ _ h1;rw [hcells] at h3;cases h3;exact ⟨u,by rw [Nat.add_assoc];exact h4,h2⟩
 have:=Rep.sl (σ:=UZ w) (((List.range len).map f).map F) b off cap (P.cellsOf e) cells (fun i j=>(cells[off+i*P.cellsOf e+j]?).getD undef) hcells (by rw [hll];exact hl) hm (fun i x hi=>by rw [(hget i x hi).2,hF])
  (fun i x j c hi hj=>by
    obtain ⟨u,h1,_⟩:=hcell i x j c hi hj;rw [h1];rfl) (fun i x j c hi hj=>by
    obtain ⟨u,h1,h2⟩:=hcell i x j c hi hj;rw [h1];exact h2)
 rw [hll] at this;exact this
end
section
variable {H:Type} {enc:TypeId×Value->H} {w:World}
def z1r (i:TyI):Array Field:=match i.desc with
 | .struct fs=>fs
 | _ => #[]
instance:Inhabited X:=⟨.mk 0 0 [] []⟩
instance:Inhabited Arg:=⟨⟨false,[],default⟩⟩
instance:Inhabited S:=⟨.mk 0 0 [] [] [] default false [] [] []⟩
instance:Inhabited Param:=⟨⟨[],false⟩⟩
instance:Inhabited Pr:=⟨⟨[],[],[],[],[]⟩⟩
noncomputable abbrev Rd (H:Type) (enc:TypeId×Value->H) (w:World) (n:Nat) (t:TypeId) (cs:List Value):Option (DataW H×List MemPlace):=DataW.trod enc Tryz.prog w 0 (fun _=>true) true n t cs
theorem PU {n:Nat} {t:TypeId} {cs:List Value} {x:DataW H×List MemPlace} (ht:Tryz.prog.underlying t=some (.slice 9)) (h:Rd H enc w n t cs=some x) : ∃ l:List Str,RepCs (UZ w) [eStrs l] cs :=
 q0d AV.str (fun _=>rfl) ht (by kernel_rfl) (fun _=>rfl) Nat.one_pos (fun m cs' y _ hy=>q4v (by kernel_rfl) hy) h
theorem w3w : ∀ (n:Nat) (cs:List Value) (x:DataW H×List MemPlace),Rd H enc w n 36 cs=some x -> ∃ e:X,RepCs (UZ w) e.cells cs:=by
 intro n;induction n using Nat.strongRecOn with
 | _ n ih =>
   intro cs x h;obtain ⟨xs,m,rfl,_,hlen,hxl,hf⟩:=DataW.trod_struct (fs:=z1r v0f) (by kernel_rfl) h;replace hlen:cs.length=4:=hlen.trans (by kernel_rfl);have fld:=fun (i:Nat) (f:Field) (hi:(z1r v0f)[i]? = some f)=>(hf i f hi).trans (List.getElem?_eq_getElem (by rw [hxl];exact (Array.getElem?_eq_some_iff.1 hi).1));obtain ⟨op,h0⟩:=x8v (by kernel_rfl) (fld 0 _ rfl);obtain ⟨nn,h1⟩:=x8v (by kernel_rfl) (fld 1 _ rfl);obtain ⟨nm,h2⟩:=q4v (by kernel_rfl) (fld 2 _ rfl);obtain ⟨ks,h3⟩:=q0d (fun x:X => .agg x.cells) (fun _=>rfl) (e:=36) (sz:=4) (by kernel_rfl) (by kernel_rfl) (fun _=>rfl) (by decide) (fun m' cs' y hm hy=>ih m' (by omega) cs' y hy) (fld 3 _ rfl);refine ⟨.mk op nn nm ks,?_⟩;have:=RepCs.step (o:=0) (k:=1) h0 (RepCs.step (o:=1) (k:=1) h1 (RepCs.step (o:=2) (k:=1) h2 (RepCs.step (o:=3) (k:=1) h3 (RepCs.fin hlen))));unfold X.cells;rw [X.avs_eq];exact this
theorem w0j (n:Nat) (cs:List Value) (x:DataW H×List MemPlace) (h:Rd H enc w n 128 cs=some x) : ∃ e:Arg,RepCs (UZ w) e.cells cs:=by
 obtain ⟨xs,m,rfl,_,hlen,hxl,hf⟩:=DataW.trod_struct (fs:=z1r w4x) (by kernel_rfl) h;replace hlen:cs.length=6:=hlen.trans (by kernel_rfl);have fld:=fun (i:Nat) (f:Field) (hi:(z1r w4x)[i]? = some f)=>(hf i f hi).trans (List.getElem?_eq_getElem (by rw [hxl];exact (Array.getElem?_eq_some_iff.1 hi).1));obtain ⟨rf,h0⟩:=z2t (by kernel_rfl) (fld 0 _ rfl);obtain ⟨nm,h1⟩:=q4v (by kernel_rfl) (fld 1 _ rfl);obtain ⟨e,h2⟩:=w3w _ _ _ (fld 2 _ rfl);refine ⟨⟨rf,nm,e⟩,?_⟩;have:=RepCs.step (o:=0) (k:=1) h0 (RepCs.step (o:=1) (k:=1) h1 (RepCs.step (o:=2) (k:=4) h2 (RepCs.fin hlen)));exact this
theorem w4c : ∀ (n:Nat) (cs:List Value) (x:DataW H×List MemPlace),Rd H enc w n 40 cs=some x -> ∃ e:S,RepCs (UZ w) e.cells cs:=by
 intro n;induction n using Nat.strongRecOn with
 | _ n ih =>
   intro cs x h;obtain ⟨xs,m,rfl,_,hlen,hxl,hf⟩:=DataW.trod_struct (fs:=z1r v0c) (by kernel_rfl) h;replace hlen:cs.length=13:=hlen.trans (by kernel_rfl);have fld:=fun (i:Nat) (f:Field) (hi:(z1r v0c)[i]? = some f)=>(hf i f hi).trans (List.getElem?_eq_getElem (by rw [hxl];exact (Array.getElem?_eq_some_iff.1 hi).1));obtain ⟨id,h0⟩:=x8v (by kernel_rfl) (fld 0 _ rfl);obtain ⟨kd,h1⟩:=x8v (by kernel_rfl) (fld 1 _ rfl);obtain ⟨lb,h2⟩:=PU (by kernel_rfl) (fld 2 _ rfl);obtain ⟨nm,h3⟩:=q4v (by kernel_rfl) (fld 3 _ rfl);obtain ⟨pc,h4⟩:=q4v (by kernel_rfl) (fld 4 _ rfl);obtain ⟨e,h5⟩:=w3w _ _ _ (fld 5 _ rfl);obtain ⟨hs,h6⟩:=z2t (by kernel_rfl) (fld 6 _ rfl);obtain ⟨ar,h7⟩:=q0d (fun x:Arg => .agg x.cells) (fun _=>rfl) (e:=128) (sz:=6) (by kernel_rfl) (by kernel_rfl) (fun _=>rfl) (by decide) (fun m' cs' y hm hy=>w0j m' cs' y hy) (fld 7 _ rfl);obtain ⟨th,h8⟩:=q0d (fun x:S => .agg x.cells) (fun _=>rfl) (e:=40) (sz:=13) (by kernel_rfl) (by kernel_rfl) (fun _=>rfl) (by decide) (fun m' cs' y hm hy=>ih m' (by omega) cs' y hy) (fld 8 _ rfl);obtain ⟨el,h9⟩:=q0d (fun x:S => .agg x.cells) (fun _=>rfl) (e:=40) (sz:=13) (by kernel_rfl) (by kernel_rfl) (fun _=>rfl) (by decide) (fun m' cs' y hm hy=>ih m' (by omega) cs' y hy) (fld 9 _ rfl);refine ⟨.mk id kd lb nm pc e hs ar th el,?_⟩;have:=RepCs.step (o:=0) (k:=1) h0 (RepCs.step (o:=1) (k:=1) h1 (RepCs.step (o:=2) (k:=1) h2 (RepCs.step (o:=3) (k:=1) h3 (RepCs.step (o:=4) (k:=1) h4 (RepCs.step (o:=5) (k:=4) h5 (RepCs.step (o:=9) (k:=1) h6 (RepCs.step (o:=10) (k:=1) h7 (RepCs.step (o:=11) (k:=1) h8 (RepCs.step (o:=12) (k:=1) h9 (RepCs.fin hlen))))))))));unfold S.cells;rw [S.avs_eq,S.avs_eq];exact this
theorem z0u (n:Nat) (cs:List Value) (x:DataW H×List MemPlace) (h:Rd H enc w n 104 cs=some x) : ∃ e:Param,RepCs (UZ w) e.cells cs:=by
 obtain ⟨xs,m,rfl,_,hlen,hxl,hf⟩:=DataW.trod_struct (fs:=z1r ty104) (by kernel_rfl) h;replace hlen:cs.length=2:=hlen.trans (by kernel_rfl);have fld:=fun (i:Nat) (f:Field) (hi:(z1r ty104)[i]? = some f)=>(hf i f hi).trans (List.getElem?_eq_getElem (by rw [hxl];exact (Array.getElem?_eq_some_iff.1 hi).1));obtain ⟨nm,h0⟩:=q4v (by kernel_rfl) (fld 0 _ rfl);obtain ⟨rf,h1⟩:=z2t (by kernel_rfl) (fld 1 _ rfl);refine ⟨⟨nm,rf⟩,?_⟩;have:=RepCs.step (o:=0) (k:=1) h0 (RepCs.step (o:=1) (k:=1) h1 (RepCs.fin hlen));exact this
theorem w5m (n:Nat) (cs:List Value) (x:DataW H×List MemPlace) (h:Rd H enc w n 98 cs=some x) : ∃ e:Pr,RepCs (UZ w) e.cells cs:=by
 obtain ⟨xs,m,rfl,_,hlen,hxl,hf⟩:=DataW.trod_struct (fs:=z1r w9w) (by kernel_rfl) h;replace hlen:cs.length=5:=hlen.trans (by kernel_rfl);have fld:=fun (i:Nat) (f:Field) (hi:(z1r w9w)[i]? = some f)=>(hf i f hi).trans (List.getElem?_eq_getElem (by rw [hxl];exact (Array.getElem?_eq_some_iff.1 hi).1));obtain ⟨nm,h0⟩:=q4v (by kernel_rfl) (fld 0 _ rfl);obtain ⟨pm,h1⟩:=q0d (fun x:Param => .agg x.cells) (fun _=>rfl) (e:=104) (sz:=2) (by kernel_rfl) (by kernel_rfl) (fun _=>rfl) (by decide) (fun m' cs' y hm hy=>z0u m' cs' y hy) (fld 1 _ rfl);obtain ⟨vs,h2⟩:=PU (by kernel_rfl) (fld 2 _ rfl);obtain ⟨bd,h3⟩:=q0d (fun x:S => .agg x.cells) (fun _=>rfl) (e:=40) (sz:=13) (by kernel_rfl) (by kernel_rfl) (fun _=>rfl) (by decide) (fun m' cs' y hm hy=>w4c m' cs' y hy) (fld 3 _ rfl);obtain ⟨fn,h4⟩:=PU (by kernel_rfl) (fld 4 _ rfl);refine ⟨⟨nm,pm,vs,bd,fn⟩,?_⟩;have:=RepCs.step (o:=0) (k:=1) h0 (RepCs.step (o:=1) (k:=1) h1 (RepCs.step (o:=2) (k:=1) h2 (RepCs.step (o:=3) (k:=1) h3 (RepCs.step (o:=4) (k:=1) h4 (RepCs.fin hlen)))));unfold Pr.cells eSs;rw [S.avs_eq];exact this
theorem w3l (n:Nat) (cs:List Value) (x:DataW H×List MemPlace) (h:Rd H enc w n 25 cs=some x) : ∃ e:Pg,RepCs (UZ w) e.cells cs:=by
 obtain ⟨xs,m,rfl,_,hlen,hxl,hf⟩:=DataW.trod_struct (fs:=z1r w8s) (by kernel_rfl) h;replace hlen:cs.length=2:=hlen.trans (by kernel_rfl);have fld:=fun (i:Nat) (f:Field) (hi:(z1r w8s)[i]? = some f)=>(hf i f hi).trans (List.getElem?_eq_getElem (by rw [hxl];exact (Array.getElem?_eq_some_iff.1 hi).1));obtain ⟨gl,h0⟩:=PU (by kernel_rfl) (fld 0 _ rfl);obtain ⟨ps,h1⟩:=q0d (fun x:Pr => .agg x.cells) (fun _=>rfl) (e:=98) (sz:=5) (by kernel_rfl) (by kernel_rfl) (fun _=>rfl) (by decide) (fun m' cs' y hm hy=>w5m m' cs' y hy) (fld 1 _ rfl);refine ⟨⟨gl,ps⟩,?_⟩;have:=RepCs.step (o:=0) (k:=1) h0 (RepCs.step (o:=1) (k:=1) h1 (RepCs.fin hlen));exact this

theorem w4f {v:Value} {base:Nat} {d:DataW H} {ps:List MemPlace} (hv:Value.okWide Tryz.prog w .any base 25 v) (h:DataW.Trod enc Tryz.prog w 0 (fun _=>true) true 25 v d ps) : ∃ p:Pg,Rep (UZ w) (.agg p.cells) v:=by
 have hu:Tryz.prog.underlying 25=some (.struct (z1r w8s)):=by kernel_rfl
 unfold Value.okWide at hv;rw [hu] at hv;obtain ⟨cs,rfl,_,_⟩:=hv;obtain ⟨n,hn⟩:=h;obtain ⟨p,hp⟩:=w3l n _ _ hn;exact ⟨p,hp.of_agg⟩
end
end Go.Ab
