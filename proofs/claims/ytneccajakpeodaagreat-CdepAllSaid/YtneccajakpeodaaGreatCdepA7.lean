/- The table of the types that the program's text names. -/
import Derived.Test.YtneccajakpeodaaGreatChecked
import Derived.Test.YtneccajakpeodaaGreatCdepA6
set_option linter.unusedSimpArgs false
set_option linter.unusedVariables false
set_option maxRecDepth 100000
set_option maxHeartbeats 16000000
namespace Go.Ab
open Go.Proofs
def ty0:TyI:=⟨Go.TypeDesc.tuple #[],1,0,(.tuple #[])⟩
def ty2:TyI:=⟨Go.TypeDesc.int (Go.IntKind.i64),1,8,(.int .i64 0)⟩
def ty3:TyI:=⟨Go.TypeDesc.int (Go.IntKind.i64),1,8,(.int .i64 0)⟩
def ty4:TyI:=⟨Go.TypeDesc.bool,1,1,(.bool false)⟩
def ty5:TyI:=⟨Go.TypeDesc.int (Go.IntKind.u8),1,1,(.int .u8 0)⟩
def ty9:TyI:=⟨Go.TypeDesc.string,1,16,(.string ByteArray.empty)⟩
def v2r:TyI:=⟨Go.TypeDesc.interface #[],1,16,.nilIface⟩
def v1t:TyI:=⟨Go.TypeDesc.slice 9,1,24,(.slice none 0 0)⟩
def v2p:TyI:=⟨Go.TypeDesc.slice 67,1,24,(.slice none 0 0)⟩
def w8n:TyI:=⟨Go.TypeDesc.struct #[{ name := "Globals",type:=22,offset:=0,embedded:=false,tag := "",pkgPath := "",byteOffset:=0 },{ name := "Procs",type:=23,offset:=1,embedded:=false,tag := "",pkgPath := "",byteOffset:=24 }],2,48,(.agg #[(.slice none 0 0),(.slice none 0 0)])⟩
def v2c:TyI:=⟨Go.TypeDesc.tuple #[3,4],1,0,(.tuple #[(.int .i64 0),(.bool false)])⟩
def v2y:TyI:=⟨Go.TypeDesc.slice 79,1,24,(.slice none 0 0)⟩
def v2m:TyI:=⟨Go.TypeDesc.slice 3,1,24,(.slice none 0 0)⟩
def v2x:TyI:=⟨Go.TypeDesc.slice 36,1,24,(.slice none 0 0)⟩
def v2k:TyI:=⟨Go.TypeDesc.slice 47,1,24,(.slice none 0 0)⟩
def v2t:TyI:=⟨Go.TypeDesc.array 2 3,2,16,(.agg #[(.int .i64 0),(.int .i64 0)])⟩
def v2a:TyI:=⟨Go.TypeDesc.slice 55,1,24,(.slice none 0 0)⟩
def w9y:TyI:=⟨Go.TypeDesc.struct #[{ name := "Op",type:=3,offset:=0,embedded:=false,tag := "",pkgPath := "",byteOffset:=0 },{ name := "N",type:=2,offset:=1,embedded:=false,tag := "",pkgPath := "",byteOffset:=8 },{ name := "Name",type:=9,offset:=2,embedded:=false,tag := "",pkgPath := "",byteOffset:=16 },{ name := "Kids",type:=53,offset:=3,embedded:=false,tag := "",pkgPath := "",byteOffset:=32 }],4,56,(.agg #[(.int .i64 0),(.int .i64 0),(.string ByteArray.empty),(.slice none 0 0)])⟩
def v1c:TyI:=⟨Go.TypeDesc.slice 73,1,24,(.slice none 0 0)⟩
def v2d:TyI:=⟨Go.TypeDesc.slice 59,1,24,(.slice none 0 0)⟩
def w9x:TyI:=⟨Go.TypeDesc.struct #[{ name := "Id",type:=3,offset:=0,embedded:=false,tag := "",pkgPath := "",byteOffset:=0 },{ name := "Kind",type:=3,offset:=1,embedded:=false,tag := "",pkgPath := "",byteOffset:=8 },{ name := "Labels",type:=22,offset:=2,embedded:=false,tag := "",pkgPath := "",byteOffset:=16 },{ name := "Name",type:=9,offset:=3,embedded:=false,tag := "",pkgPath := "",byteOffset:=40 },{ name := "Proc",type:=9,offset:=4,embedded:=false,tag := "",pkgPath := "",byteOffset:=56 },{ name := "X",type:=55,offset:=5,embedded:=false,tag := "",pkgPath := "",byteOffset:=72 },{ name := "Has",type:=4,offset:=9,embedded:=false,tag := "",pkgPath := "",byteOffset:=128 },{ name := "Args",type:=56,offset:=10,embedded:=false,tag := "",pkgPath := "",byteOffset:=136 },{ name := "Then",type:=57,offset:=11,embedded:=false,tag := "",pkgPath := "",byteOffset:=160 },{ name := "Else",type:=57,offset:=12,embedded:=false,tag := "",pkgPath := "",byteOffset:=184 }],13,208,(.agg #[(.int .i64 0),(.int .i64 0),(.slice none 0 0),(.string ByteArray.empty),(.string ByteArray.empty),(.int .i64 0),(.int .i64 0),(.string ByteArray.empty),(.slice none 0 0),(.bool false),(.slice none 0 0),(.slice none 0 0),(.slice none 0 0)])⟩
def v2o:TyI:=⟨Go.TypeDesc.slice 71,1,24,(.slice none 0 0)⟩
def w9f:TyI:=⟨Go.TypeDesc.struct #[{ name := "Name",type:=9,offset:=0,embedded:=false,tag := "",pkgPath := "",byteOffset:=0 },{ name := "Params",type:=65,offset:=1,embedded:=false,tag := "",pkgPath := "",byteOffset:=16 },{ name := "Vars",type:=22,offset:=2,embedded:=false,tag := "",pkgPath := "",byteOffset:=40 },{ name := "Body",type:=57,offset:=3,embedded:=false,tag := "",pkgPath := "",byteOffset:=64 },{ name := "End",type:=22,offset:=4,embedded:=false,tag := "",pkgPath := "",byteOffset:=88 }],5,112,(.agg #[(.string ByteArray.empty),(.slice none 0 0),(.slice none 0 0),(.slice none 0 0),(.slice none 0 0)])⟩
def v1a:TyI:=⟨Go.TypeDesc.tuple #[67,4],1,0,(.tuple #[(.agg #[(.string ByteArray.empty),(.slice none 0 0),(.slice none 0 0),(.slice none 0 0),(.slice none 0 0)]),(.bool false)])⟩
def v0r:TyI:=⟨Go.TypeDesc.struct #[{ name := "Name",type:=9,offset:=0,embedded:=false,tag := "",pkgPath := "",byteOffset:=0 },{ name := "Ref",type:=4,offset:=1,embedded:=false,tag := "",pkgPath := "",byteOffset:=16 }],2,24,(.agg #[(.string ByteArray.empty),(.bool false)])⟩
def v0x:TyI:=⟨Go.TypeDesc.struct #[{ name := "Ref",type:=4,offset:=0,embedded:=false,tag := "",pkgPath := "",byteOffset:=0 },{ name := "Name",type:=9,offset:=1,embedded:=false,tag := "",pkgPath := "",byteOffset:=8 },{ name := "X",type:=55,offset:=2,embedded:=false,tag := "",pkgPath := "",byteOffset:=24 }],6,80,(.agg #[(.bool false),(.string ByteArray.empty),(.int .i64 0),(.int .i64 0),(.string ByteArray.empty),(.slice none 0 0)])⟩
def v2g:TyI:=⟨Go.TypeDesc.struct #[{ name := "From",type:=3,offset:=0,embedded:=false,tag := "",pkgPath := "",byteOffset:=0 },{ name := "To",type:=3,offset:=1,embedded:=false,tag := "",pkgPath := "",byteOffset:=8 },{ name := "Kind",type:=3,offset:=2,embedded:=false,tag := "",pkgPath := "",byteOffset:=16 }],3,24,(.agg #[(.int .i64 0),(.int .i64 0),(.int .i64 0)])⟩
def v2n:TyI:=⟨Go.TypeDesc.int (Go.IntKind.i64),1,8,(.int .i64 0)⟩
def v2e:TyI:=⟨Go.TypeDesc.struct #[{ name := "Code",type:=88,offset:=0,embedded:=false,tag := "",pkgPath := "",byteOffset:=0 },{ name := "At",type:=3,offset:=1,embedded:=false,tag := "",pkgPath := "",byteOffset:=8 }],2,16,(.agg #[(.int .i64 0),(.int .i64 0)])⟩
def v2w:TyI:=⟨Go.TypeDesc.func #[3,3] #[3] false,1,8,.nilFunc⟩
def v1i:TyI:=⟨Go.TypeDesc.pointer 101,1,8,(.pointer none)⟩
def v2u:TyI:=⟨Go.TypeDesc.struct #[{ name := "S",type:=59,offset:=0,embedded:=false,tag := "",pkgPath := "",byteOffset:=0 },{ name := "Proc",type:=3,offset:=13,embedded:=false,tag := "",pkgPath := "",byteOffset:=208 },{ name := "Up",type:=3,offset:=14,embedded:=false,tag := "",pkgPath := "",byteOffset:=216 },{ name := "Next",type:=3,offset:=15,embedded:=false,tag := "",pkgPath := "",byteOffset:=224 },{ name := "Loop",type:=3,offset:=16,embedded:=false,tag := "",pkgPath := "",byteOffset:=232 }],17,240,(.agg #[(.int .i64 0),(.int .i64 0),(.slice none 0 0),(.string ByteArray.empty),(.string ByteArray.empty),(.int .i64 0),(.int .i64 0),(.string ByteArray.empty),(.slice none 0 0),(.bool false),(.slice none 0 0),(.slice none 0 0),(.slice none 0 0),(.int .i64 0),(.int .i64 0),(.int .i64 0),(.int .i64 0)])⟩
def v2s:TyI:=⟨Go.TypeDesc.slice 98,1,24,(.slice none 0 0)⟩
def v1w:TyI:=⟨Go.TypeDesc.struct #[{ name := "P",type:=25,offset:=0,embedded:=false,tag := "",pkgPath := "",byteOffset:=0 },{ name := "L",type:=99,offset:=2,embedded:=false,tag := "",pkgPath := "",byteOffset:=48 },{ name := "Lo",type:=36,offset:=3,embedded:=false,tag := "",pkgPath := "",byteOffset:=72 },{ name := "Hi",type:=36,offset:=4,embedded:=false,tag := "",pkgPath := "",byteOffset:=96 }],5,120,(.agg #[(.slice none 0 0),(.slice none 0 0),(.slice none 0 0),(.slice none 0 0),(.slice none 0 0)])⟩
def v1z:TyI:=⟨Go.TypeDesc.struct #[{ name := "S",type:=59,offset:=0,embedded:=false,tag := "",pkgPath := "",byteOffset:=0 },{ name := "Deep",type:=3,offset:=13,embedded:=false,tag := "",pkgPath := "",byteOffset:=208 },{ name := "In",type:=3,offset:=14,embedded:=false,tag := "",pkgPath := "",byteOffset:=216 },{ name := "Else",type:=4,offset:=15,embedded:=false,tag := "",pkgPath := "",byteOffset:=224 }],16,232,(.agg #[(.int .i64 0),(.int .i64 0),(.slice none 0 0),(.string ByteArray.empty),(.string ByteArray.empty),(.int .i64 0),(.int .i64 0),(.string ByteArray.empty),(.slice none 0 0),(.bool false),(.slice none 0 0),(.slice none 0 0),(.slice none 0 0),(.int .i64 0),(.int .i64 0),(.bool false)])⟩
def v1h:TyI:=⟨Go.TypeDesc.tuple #[103,9,4],1,0,(.tuple #[(.agg #[(.int .i64 0),(.int .i64 0),(.slice none 0 0),(.string ByteArray.empty),(.string ByteArray.empty),(.int .i64 0),(.int .i64 0),(.string ByteArray.empty),(.slice none 0 0),(.bool false),(.slice none 0 0),(.slice none 0 0),(.slice none 0 0),(.int .i64 0),(.int .i64 0),(.bool false)]),(.string ByteArray.empty),(.bool false)])⟩
def w9w:TyI:=⟨Go.TypeDesc.slice 103,1,24,(.slice none 0 0)⟩
def v1j:TyI:=⟨Go.TypeDesc.tuple #[106,4],1,0,(.tuple #[(.slice none 0 0),(.bool false)])⟩
def w9o:TyI:=⟨Go.TypeDesc.pointer 114,1,8,(.pointer none)⟩
def w9h:TyI:=⟨Go.TypeDesc.slice 4,1,24,(.slice none 0 0)⟩
def w8i:TyI:=⟨Go.TypeDesc.struct #[{ name := "S",type:=94,offset:=0,embedded:=false,tag := "",pkgPath := "",byteOffset:=0 },{ name := "Proc",type:=3,offset:=1,embedded:=false,tag := "",pkgPath := "",byteOffset:=8 },{ name := "N",type:=3,offset:=2,embedded:=false,tag := "",pkgPath := "",byteOffset:=16 },{ name := "Real",type:=33,offset:=3,embedded:=false,tag := "",pkgPath := "",byteOffset:=24 },{ name := "Live",type:=112,offset:=4,embedded:=false,tag := "",pkgPath := "",byteOffset:=48 }],5,72,(.agg #[(.pointer none),(.int .i64 0),(.int .i64 0),(.slice none 0 0),(.slice none 0 0)])⟩
def w9j:TyI:=⟨Go.TypeDesc.struct #[{ name := "L",type:=106,offset:=0,embedded:=false,tag := "",pkgPath := "",byteOffset:=0 },{ name := "End",type:=22,offset:=1,embedded:=false,tag := "",pkgPath := "",byteOffset:=24 }],2,48,(.agg #[(.slice none 0 0),(.slice none 0 0)])⟩
def w9t:TyI:=⟨Go.TypeDesc.tuple #[116,4],1,0,(.tuple #[(.agg #[(.slice none 0 0),(.slice none 0 0)]),(.bool false)])⟩
def v1k:TyI:=⟨Go.TypeDesc.slice 116,1,24,(.slice none 0 0)⟩
def v0q:TyI:=⟨Go.TypeDesc.slice 33,1,24,(.slice none 0 0)⟩
def v1v:TyI:=⟨Go.TypeDesc.slice 112,1,24,(.slice none 0 0)⟩
def w9p:TyI:=⟨Go.TypeDesc.pointer 144,1,8,(.pointer none)⟩
def v0v:TyI:=⟨Go.TypeDesc.slice 110,1,24,(.slice none 0 0)⟩
def w9q:TyI:=⟨Go.TypeDesc.slice 22,1,24,(.slice none 0 0)⟩
def w8o:TyI:=⟨Go.TypeDesc.struct #[{ name := "S",type:=94,offset:=0,embedded:=false,tag := "",pkgPath := "",byteOffset:=0 },{ name := "Ways",type:=141,offset:=1,embedded:=false,tag := "",pkgPath := "",byteOffset:=8 },{ name := "Defs",type:=142,offset:=2,embedded:=false,tag := "",pkgPath := "",byteOffset:=32 },{ name := "Uses",type:=142,offset:=3,embedded:=false,tag := "",pkgPath := "",byteOffset:=56 },{ name := "Ins",type:=142,offset:=4,embedded:=false,tag := "",pkgPath := "",byteOffset:=80 },{ name := "Outs",type:=142,offset:=5,embedded:=false,tag := "",pkgPath := "",byteOffset:=104 }],6,128,(.agg #[(.pointer none),(.slice none 0 0),(.slice none 0 0),(.slice none 0 0),(.slice none 0 0),(.slice none 0 0)])⟩
def w8e:TyI:=⟨Go.TypeDesc.pointer 213,1,8,(.pointer none)⟩
def v0n:TyI:=⟨Go.TypeDesc.int (Go.IntKind.u64),1,8,(.int .u64 0)⟩
def v0l:TyI:=⟨Go.TypeDesc.func #[79,79] #[4] false,1,8,.nilFunc⟩
def v0a:TyI:=⟨Go.TypeDesc.tuple #[57,3],1,0,(.tuple #[(.slice none 0 0),(.int .i64 0)])⟩
def v0h:TyI:=⟨Go.TypeDesc.func #[67] #[4] false,1,8,.nilFunc⟩
def w9n:TyI:=⟨Go.TypeDesc.func #[9] #[4] false,1,8,.nilFunc⟩
def v0b:TyI:=⟨Go.TypeDesc.pointer 196,1,8,(.pointer none)⟩
def v1u:TyI:=⟨Go.TypeDesc.struct #[{ name := "seen",type:=3,offset:=0,embedded:=false,tag := "",pkgPath := "whittler/tree",byteOffset:=0 }],1,8,(.agg #[(.int .i64 0)])⟩
def v0c:TyI:=⟨Go.TypeDesc.tuple #[22,4],1,0,(.tuple #[(.slice none 0 0),(.bool false)])⟩
def v0p:TyI:=⟨Go.TypeDesc.map 9 22,1,8,(.map none)⟩
def v0k:TyI:=⟨Go.TypeDesc.struct #[{ name := "next",type:=42,offset:=0,embedded:=false,tag := "",pkgPath := "whittler/graph",byteOffset:=0 },{ name := "prev",type:=42,offset:=1,embedded:=false,tag := "",pkgPath := "whittler/graph",byteOffset:=24 }],2,48,(.agg #[(.slice none 0 0),(.slice none 0 0)])⟩
def v0g:TyI:=⟨Go.TypeDesc.int (Go.IntKind.i64),1,8,(.int .i64 0)⟩
def v0w:TyI:=⟨Go.TypeDesc.tuple #[3,217],1,0,(.tuple #[(.int .i64 0),(.int .i64 0)])⟩
def w9r:TyI:=⟨Go.TypeDesc.int (Go.IntKind.u64),1,8,(.int .u64 0)⟩
def w9l:TyI:=⟨Go.TypeDesc.func #[79,79] #[3] false,1,8,.nilFunc⟩
def v0u:TyI:=⟨Go.TypeDesc.int (Go.IntKind.u64),1,8,(.int .u64 0)⟩
def w9d:TyI:=⟨Go.TypeDesc.pointer 3,1,8,(.pointer none)⟩
def w9i:TyI:=⟨Go.TypeDesc.pointer 248,1,8,(.pointer none)⟩
def v1y:TyI:=⟨Go.TypeDesc.tuple #[3,3],1,0,(.tuple #[(.int .i64 0),(.int .i64 0)])⟩
def tab:Tab:=[(0,ty0),(2,ty2),(3,ty3),(4,ty4),(5,ty5),(9,ty9),(20,v2r),(22,v1t),(23,v2p),(25,w8n),(30,v2c),(33,v2y),(36,v2m),(42,v2x),(45,v2k),(47,v2t),(53,v2a),(55,w9y),(56,v1c),(57,v2d),(59,w9x),(65,v2o),(67,w9f),(68,v1a),(71,v0r),(73,v0x),(79,v2g),(88,v2n),(90,v2e),(93,v2w),(94,v1i),(98,v2u),(99,v2s),(101,v1w),(103,v1z),(104,v1h),(106,w9w),(107,v1j),(110,w9o),(112,w9h),(114,w8i),(116,w9j),(117,w9t),(125,v1k),(126,v0q),(132,v1v),(139,w9p),(141,v0v),(142,w9q),(144,w8o),(166,w8e),(171,v0n),(176,v0l),(181,v0a),(185,v0h),(186,w9n),(194,v0b),(196,v1u),(202,v0c),(205,v0p),(213,v0k),(217,v0g),(218,v0w),(227,w9r),(231,w9l),(248,v0u),(252,w9d),(265,w9i),(266,v1y)]
theorem QQ:TabOK Tryz.prog tab :=
 (TabOK.cons (by kernel_rfl) (by kernel_rfl)
 (TabOK.cons (by kernel_rfl) (by kernel_rfl)
 (TabOK.cons (by kernel_rfl) (by kernel_rfl)
 (TabOK.cons (by kernel_rfl) (by kernel_rfl)
 (TabOK.cons (by kernel_rfl) (by kernel_rfl)
 (TabOK.cons (by kernel_rfl) (by kernel_rfl)
 (TabOK.cons (by kernel_rfl) (by kernel_rfl)
 (TabOK.cons (by kernel_rfl) (by kernel_rfl)
 (TabOK.cons (by kernel_rfl) (by kernel_rfl)
 (TabOK.cons (by kernel_rfl) (by kernel_rfl)
 (TabOK.cons (by kernel_rfl) (by kernel_rfl)
 (TabOK.cons (by kernel_rfl) (by kernel_rfl)
 (TabOK.cons (by kernel_rfl) (by kernel_rfl)
 (TabOK.cons (by kernel_rfl) (by kernel_rfl)
 (TabOK.cons (by kernel_rfl) (by kernel_rfl)
 (TabOK.cons (by kernel_rfl) (by kernel_rfl)
 (TabOK.cons (by kernel_rfl) (by kernel_rfl)
 (TabOK.cons (by kernel_rfl) (by kernel_rfl)
 (TabOK.cons (by kernel_rfl) (by kernel_rfl)
 (TabOK.cons (by kernel_rfl) (by kernel_rfl)
 (TabOK.cons (by kernel_rfl) (by kernel_rfl)
 (TabOK.cons (by kernel_rfl) (by kernel_rfl)
 (TabOK.cons (by kernel_rfl) (by kernel_rfl)
 (TabOK.cons (by kernel_rfl) (by kernel_rfl)
 (TabOK.cons (by kernel_rfl) (by kernel_rfl)
 (TabOK.cons (by kernel_rfl) (by kernel_rfl)
 (TabOK.cons (by kernel_rfl) (by kernel_rfl)
 (TabOK.cons (by kernel_rfl) (by kernel_rfl)
 (TabOK.cons (by kernel_rfl) (by kernel_rfl)
 (TabOK.cons (by kernel_rfl) (by kernel_rfl)
 (TabOK.cons (by kernel_rfl) (by kernel_rfl)
 (TabOK.cons (by kernel_rfl) (by kernel_rfl)
 (TabOK.cons (by kernel_rfl) (by kernel_rfl)
 (TabOK.cons (by kernel_rfl) (by kernel_rfl)
 (TabOK.cons (by kernel_rfl) (by kernel_rfl)
 (TabOK.cons (by kernel_rfl) (by kernel_rfl)
 (TabOK.cons (by kernel_rfl) (by kernel_rfl)
 (TabOK.cons (by kernel_rfl) (by kernel_rfl)
 (TabOK.cons (by kernel_rfl) (by kernel_rfl)
 (TabOK.cons (by kernel_rfl) (by kernel_rfl)
 (TabOK.cons (by kernel_rfl) (by kernel_rfl)
 (TabOK.cons (by kernel_rfl) (by kernel_rfl)
 (TabOK.cons (by kernel_rfl) (by kernel_rfl)
 (TabOK.cons (by kernel_rfl) (by kernel_rfl)
 (TabOK.cons (by kernel_rfl) (by kernel_rfl)
 (TabOK.cons (by kernel_rfl) (by kernel_rfl)
 (TabOK.cons (by kernel_rfl) (by kernel_rfl)
 (TabOK.cons (by kernel_rfl) (by kernel_rfl)
 (TabOK.cons (by kernel_rfl) (by kernel_rfl)
 (TabOK.cons (by kernel_rfl) (by kernel_rfl)
 (TabOK.cons (by kernel_rfl) (by kernel_rfl)
 (TabOK.cons (by kernel_rfl) (by kernel_rfl)
 (TabOK.cons (by kernel_rfl) (by kernel_rfl)
 (TabOK.cons (by kernel_rfl) (by kernel_rfl)
 (TabOK.cons (by kernel_rfl) (by kernel_rfl)
 (TabOK.cons (by kernel_rfl) (by kernel_rfl)
 (TabOK.cons (by kernel_rfl) (by kernel_rfl)
 (TabOK.cons (by kernel_rfl) (by kernel_rfl)
 (TabOK.cons (by kernel_rfl) (by kernel_rfl)
 (TabOK.cons (by kernel_rfl) (by kernel_rfl)
 (TabOK.cons (by kernel_rfl) (by kernel_rfl)
 (TabOK.cons (by kernel_rfl) (by kernel_rfl)
 (TabOK.cons (by kernel_rfl) (by kernel_rfl)
 (TabOK.cons (by kernel_rfl) (by kernel_rfl)
 (TabOK.cons (by kernel_rfl) (by kernel_rfl)
 (TabOK.cons (by kernel_rfl) (by kernel_rfl)
 (TabOK.cons (by kernel_rfl) (by kernel_rfl)
 (TabOK.cons (by kernel_rfl) (by kernel_rfl)
 (TabOK.cons (by kernel_rfl) (by kernel_rfl)
 (TabOK.nil _))))))))))))))))))))))))))))))))))))))))))))))))))))))))))))))))))))))
theorem mixed:Tryz.prog.follows .mixedOrders=true:=by kernel_rfl
def QB (t:List (Nat×List Nat)) (i:Nat):List Nat :=
 match t with
 | []=>[]
 | (j,l)::r=>bif Nat.beq j i then l else QB r i
def QW (t:List (Nat×List (List Nat))) (i:Nat):List (List Nat) :=
 match t with
 | []=>[]
 | (j,l)::r=>bif Nat.beq j i then l else QW r i
def QZ (t:List (Nat×Sched)) (i:Nat):Sched :=
 match t with
 | [] => .nil
 | (j,l)::r=>bif Nat.beq j i then l else QZ r i
def FV:Info:=⟨QB [(16,[6]),(15,[2,3,7,8,9,30,31,32]),(14,[2,3,7,8,9,30,31,32]),(13,[2,3,7,8,9,11,30,31,32,39]),(12,[2,3,7,8,9,11,30,31,32]),(11,[2,3,7,8,9,30,31,32,33]),(10,[2,3,7,8,9,30,31,32]),(9,[2,3,7,8,9]),(8,[2,3,7,8]),(7,[2,3,7]),(6,[6]),(5,[1,2,3,23]),(4,[6]),(3,[1,2,3,16]),(2,[6]),(1,[1,2,3,13]),(0,[1,2,3])],QZ [(16,(.cons 0 true (.cons 1 true (.cons 3 false (.cons 2 true (.cons 4 true (.cons 5 true (.cons 6 true (.cons 7 true (.cons 8 true (.cons 10 false (.cons 9 true (.cons 11 true (.cons 12 true (.cons 13 true (.cons 14 true (.cons 15 true (.cons 17 false (.cons 18 false (.cons 16 true (.cons 19 true (.cons 20 true (.cons 21 true (.cons 22 true .nil))))))))))))))))))))))))],QW [(0,[[3]]),(12,[[11]])]⟩
def MV:Info:=⟨QB [(12,[2]),(4,[1,3,4]),(11,[1,3,4]),(9,[1,3,4,5,6]),(10,[1,3,4,5,6]),(8,[1,3,4,5,6,44]),(7,[1,3,4,5,6]),(6,[1,3,4,5]),(5,[1,3,4,5]),(3,[1,3,4,18]),(2,[1,3,4]),(1,[1,3]),(0,[1])],QZ [(6,(.cons 4 true (.cons 5 true (.cons 6 true (.cons 0 false (.cons 1 false (.cons 2 false (.cons 3 false (.cons 7 true (.cons 8 true (.cons 9 true (.cons 10 true .nil))))))))))))],QW [(0,[[1]]),(5,[[5]])]⟩
def x8s:Info:=⟨QB [(1,[2]),(0,[1])],QZ [],QW [(0,[[1]])]⟩
def x7n:Info:=⟨QB [(7,[2]),(6,[3,7,8,9]),(5,[3,7,8,9]),(4,[3,5,7,8,9]),(3,[3,7,8,9,10]),(2,[3,7,8,9]),(1,[1,3]),(0,[1])],QZ [],QW [(0,[[1]]),(4,[[5]])]⟩
def DH:Info:=⟨QB [(3,[4]),(2,[4]),(1,[1,2,8]),(0,[1,2])],QZ [(3,(.cons 2 true (.cons 3 true (.cons 4 true (.cons 5 true (.cons 0 false (.cons 1 false (.cons 6 true (.cons 7 true (.cons 8 true (.cons 9 true (.cons 10 true .nil))))))))))))],QW [(0,[[2]])]⟩
def FR:Info:=⟨QB [(9,[4]),(8,[0,1,12,13]),(7,[4]),(6,[0,1,12,13,24]),(5,[0,1,5,12,13]),(4,[0,1,12,13,14]),(3,[0,1,12,13]),(2,[4]),(1,[0,1,10]),(0,[0,1])],QZ [(6,(.cons 0 true (.cons 1 true (.cons 2 true (.cons 3 true (.cons 4 true (.cons 5 true (.cons 6 true (.cons 7 true (.cons 8 true .nil))))))))))],QW []⟩
def LX:Info:=⟨QB [(12,[4]),(11,[5,7,8,28,29,30]),(10,[5,7,8,28,29,30]),(9,[5,7,8,10,28,29,30,37]),(8,[5,7,8,10,28,29,30]),(7,[5,7,8,28,29,30,31]),(6,[5,7,8,28,29,30]),(5,[5,7,8]),(4,[5,7]),(3,[4]),(2,[5,18]),(1,[5,6]),(0,[1,2])],QZ [(10,(.cons 4 true (.cons 5 true (.cons 6 true (.cons 7 true (.cons 8 true (.cons 0 false (.cons 1 false (.cons 2 false (.cons 3 false (.cons 9 true (.cons 10 true (.cons 11 true (.cons 12 true (.cons 13 true .nil)))))))))))))))],QW [(0,[[2]]),(1,[[5]]),(8,[[10]])]⟩
def GG:Info:=⟨QB [(3,[0]),(2,[1,2]),(1,[1]),(0,[])],QZ [],QW [(1,[[1]])]⟩
def FQ:Info:=⟨QB [(20,[4]),(19,[5,6,7,8,24,25,26]),(18,[5,6,7,8,9,10,24,25,26,31,32,33]),(17,[5,6,7,8,9,10,11,12,24,25,26,31,32,33,54,55,56]),(16,[5,6,7,8,9,10,24,25,26,31,32,33]),(15,[5,6,7,8,9,10,11,12,24,25,26,31,32,33,54,55,56,75]),(14,[5,6,7,8,9,10,11,12,14,24,25,26,31,32,33,54,55,56]),(13,[5,6,7,8,9,10,11,12,24,25,26,31,32,33,54,55,56,57]),(12,[5,6,7,8,9,10,11,12,24,25,26,31,32,33,54,55,56]),(11,[5,6,7,8,9,10,11,12,24,25,26,31,32,33,53]),(10,[5,6,7,8,9,10,11,12,24,25,26,31,32,33]),(9,[5,6,7,8,9,10,24,25,26,31,32,33,34]),(8,[5,6,7,8,9,10,24,25,26,31,32,33]),(7,[5,6,7,8,9,10,24,25,26]),(6,[5,6,7,8,24,25,26,27]),(5,[5,6,7,8,24,25,26]),(4,[5,6,7,8]),(3,[5,6,7]),(2,[5,6]),(1,[1,2,5]),(0,[1,2])],QZ [],QW [(0,[[2]]),(14,[[14]])]⟩
def HE:Info:=⟨QB [(9,[4]),(8,[0,1,12,13]),(7,[4]),(6,[0,1,12,13,24]),(5,[0,1,5,12,13]),(4,[0,1,12,13,14]),(3,[0,1,12,13]),(2,[4]),(1,[0,1,10]),(0,[0,1])],QZ [(6,(.cons 0 true (.cons 1 true (.cons 2 true (.cons 3 true (.cons 4 true (.cons 5 true (.cons 6 true (.cons 7 true (.cons 8 true .nil))))))))))],QW []⟩
def z7j:Info:=⟨QB [(4,[4]),(3,[4]),(2,[5,10]),(1,[5]),(0,[1,2])],QZ [],QW [(0,[[2]])]⟩
def x7v:Info:=⟨QB [(8,[6]),(7,[2,7,12,13,14]),(6,[2,7,12,13,14]),(5,[2,7,9,12,13,14,21]),(4,[2,7,9,12,13,14]),(3,[2,7,12,13,14,15]),(2,[2,7,12,13,14]),(1,[1,2,3,7]),(0,[1,2,3])],QZ [],QW [(0,[[3]]),(4,[[9]])]⟩
def z8q:Info:=⟨QB [(12,[4]),(11,[6]),(9,[5,6,7]),(10,[5,6,7]),(8,[5,6,7,27]),(7,[5,6,7]),(6,[1,5,6]),(5,[4]),(4,[1,5,16]),(3,[1,5]),(2,[4]),(1,[1,2,10]),(0,[1,2])],QZ [],QW [(0,[[2]])]⟩
def LC:Info:=⟨QB [(8,[4]),(7,[2,5,8]),(6,[2,5,8]),(5,[2,5,8,25]),(4,[2,5,8]),(3,[4]),(2,[2,5,22]),(1,[2,5,7]),(0,[1,2])],QZ [],QW [(0,[[2]])]⟩
def q1o:Info:=⟨QB [(7,[4]),(6,[0,1,7,8]),(5,[4]),(4,[0,1,7,8,16]),(3,[0,1,5,7,8]),(2,[0,1,7,8,9]),(1,[0,1,7,8]),(0,[0,1])],QZ [],QW []⟩
def MN:Info:=⟨QB [(8,[4,5]),(7,[1,4,11,12,13]),(6,[4,5]),(5,[1,4,7,11,12,13,20]),(4,[1,4,7,11,12,13]),(3,[1,4,11,12,13,14]),(2,[1,4,11,12,13]),(1,[1,2,4,9]),(0,[1,2,4])],QZ [],QW [(0,[[2]]),(4,[[7]])]⟩
def NN:Info:=⟨QB [(12,[2]),(11,[3,25,26,27]),(10,[3,25,26,27]),(9,[3,5,25,26,27]),(8,[3,5,25,26,27,32]),(7,[3,5,25,26,27]),(6,[3,25,26,27,28]),(5,[3,25,26,27]),(4,[1,3]),(3,[1,3]),(2,[1,3,13]),(1,[1,3]),(0,[1])],QZ [],QW [(0,[[1]]),(7,[[5]])]⟩
def UQ:Info:=⟨QB [(10,[4]),(9,[7,19,20,21]),(8,[7,19,20,21]),(7,[7,9,19,20,21]),(6,[7,19,20,21,22]),(5,[7,19,20,21]),(4,[5,7]),(3,[4]),(2,[5,17]),(1,[5,6]),(0,[1,2])],QZ [],QW [(0,[[2]]),(7,[[9]])]⟩
def PE:Info:=⟨QB [(12,[6]),(4,[0,2,7,8]),(11,[0,2,7,8,29,30,31]),(10,[0,2,7,8,29,30,31]),(9,[0,2,7,8,10,29,30,31,48]),(8,[0,2,7,8,10,29,30,31]),(7,[0,2,7,8,29,30,31,32]),(6,[0,2,7,8,29,30,31]),(5,[0,2,7,8,28]),(3,[0,2,7,8,16]),(2,[0,2,7,8]),(1,[0,2,7]),(0,[0,1,2])],QZ [(9,(.cons 0 true (.cons 1 true (.cons 2 true (.cons 3 true (.cons 4 true (.cons 5 true (.cons 6 true (.cons 7 true (.cons 8 true (.cons 9 true (.cons 10 true (.cons 11 true (.cons 12 true (.cons 13 true .nil)))))))))))))))],QW [(8,[[10]])]⟩
def q9y:Info:=⟨QB [(1,[2]),(0,[1])],QZ [],QW [(0,[[1]])]⟩
def NP:Info:=⟨QB [(3,[0]),(2,[0,1,2]),(1,[0,1]),(0,[0])],QZ [],QW [(1,[[1]]),(2,[[2]])]⟩
def KR:Info:=⟨QB [(5,[4]),(3,[0,1,5]),(4,[0,1,5]),(2,[0,1,5,13]),(1,[0,1,5]),(0,[0,1])],QZ [],QW []⟩
def GT:Info:=⟨QB [(3,[4]),(2,[4]),(1,[0,1,13]),(0,[0,1])],QZ [],QW []⟩
def KJ:Info:=⟨QB [(11,[4]),(3,[0,1,5]),(10,[0,1,5]),(8,[0,1,5,6,7]),(9,[0,1,5,6,7]),(7,[0,1,5,6,7,43]),(6,[0,1,5,6,7]),(5,[0,1,5,6]),(4,[0,1,5,6]),(2,[0,1,5,15]),(1,[0,1,5]),(0,[0,1])],QZ [(5,(.cons 6 true (.cons 7 true (.cons 8 true (.cons 0 false (.cons 1 false (.cons 2 false (.cons 3 false (.cons 4 false (.cons 5 false (.cons 9 true (.cons 10 true (.cons 11 true (.cons 12 true (.cons 13 true .nil))))))))))))))),(9,(.cons 6 true (.cons 7 true (.cons 8 true (.cons 9 true (.cons 10 true (.cons 11 true (.cons 12 true (.cons 0 false (.cons 1 false (.cons 2 false (.cons 3 false (.cons 4 false (.cons 5 false (.cons 13 true (.cons 14 true (.cons 15 true .nil))))))))))))))))),(10,(.cons 2 true (.cons 3 true (.cons 4 true (.cons 0 false (.cons 1 false (.cons 5 true (.cons 6 true (.cons 7 true .nil)))))))))],QW [(4,[[6]])]⟩
def x9p:Info:=⟨QB [(10,[2]),(9,[2,3]),(8,[1,2,3,22]),(7,[1,2,3]),(6,[1,2,3,17]),(5,[1,2,3]),(4,[1,2,3,12]),(3,[1,2,3]),(2,[2]),(1,[1,2,6]),(0,[1,2])],QZ [],QW [(0,[[1]])]⟩
def x5q:Info:=⟨QB [(7,[2]),(6,[0,3,8,9]),(5,[0,3,8,9]),(4,[0,3,4,8,9]),(3,[0,3,8,9,10]),(2,[0,3,8,9]),(1,[0,3]),(0,[0])],QZ [(5,(.cons 1 true (.cons 2 true (.cons 3 true (.cons 4 true (.cons 5 true (.cons 0 false (.cons 7 false (.cons 8 false (.cons 9 false (.cons 10 false (.cons 11 false (.cons 6 true (.cons 12 true (.cons 13 true (.cons 14 true (.cons 15 true .nil)))))))))))))))))],QW []⟩
def q0i:Info:=⟨QB [(6,[4]),(5,[4]),(4,[0,1,11]),(3,[0,1]),(2,[4]),(1,[0,1,6]),(0,[0,1])],QZ [],QW []⟩
def z3q:Info:=⟨QB [(9,[2]),(8,[3,10,11,12]),(7,[3,10,11,12]),(6,[3,10,11,12]),(5,[3,4,5,10,11,12]),(4,[3,4,5,10,11,12]),(3,[3,10,11,12,13]),(2,[3,10,11,12]),(1,[1,3]),(0,[1])],QZ [(5,(.cons 5 true (.cons 6 true (.cons 7 true (.cons 8 true (.cons 9 true (.cons 10 true (.cons 0 false (.cons 1 false (.cons 2 false (.cons 3 false (.fork 4 (.cons 11 true (.cons 12 true (.cons 13 true (.cons 14 true (.cons 15 true .nil))))) 11 (.cons 4 true (.cons 12 true (.cons 13 true (.cons 14 true (.cons 15 true .nil))))))))))))))))),(7,(.cons 5 true (.cons 6 true (.cons 7 true (.cons 8 true (.cons 9 true (.cons 10 true (.cons 0 false (.cons 1 false (.cons 2 false (.cons 3 false (.fork 4 (.cons 11 true (.cons 12 true (.cons 13 true (.cons 14 true (.cons 15 true .nil))))) 11 (.cons 4 true (.cons 12 true (.cons 13 true (.cons 14 true (.cons 15 true .nil)))))))))))))))))],QW [(0,[[1]]),(4,[[5]])]⟩
def q4h:Info:=⟨QB [(1,[4]),(0,[0,1])],QZ [],QW []⟩
def NR:Info:=⟨QB [(11,[4,5,6]),(10,[1,4,12,13,14]),(9,[1,4,8,12,13,14,19,20,21]),(8,[4,5,6]),(7,[1,4,8,10,12,13,14,19,20,21,29]),(6,[1,4,8,10,12,13,14,19,20,21]),(5,[1,4,8,12,13,14,19,20,21,22]),(4,[1,4,8,12,13,14,19,20,21]),(3,[1,4,8,12,13,14]),(2,[1,4,12,13,14,15]),(1,[1,4,12,13,14]),(0,[1,2,4])],QZ [(8,(.cons 0 true (.cons 1 false (.cons 2 false (.cons 3 true (.cons 4 true (.cons 5 true .nil)))))))],QW [(0,[[2]]),(3,[[8]]),(6,[[10]])]⟩
def PF:Info:=⟨QB [(1,[2]),(0,[1])],QZ [],QW [(0,[[1]])]⟩
def UA:Info:=⟨QB [(4,[4,5]),(3,[4,5]),(2,[6,20]),(1,[2,6,7]),(0,[1,2])],QZ [],QW [(0,[[2]]),(1,[[6]])]⟩
def FL:Info:=⟨QB [(12,[4]),(11,[4]),(10,[0,5,41]),(9,[4]),(8,[0,5,34]),(5,[0,1,5,6,7]),(7,[4]),(6,[0,1,5,6,7,26]),(4,[0,1,5,6,7,18]),(3,[0,1,5,6,7]),(2,[0,1,5,6]),(1,[0,1,5]),(0,[0,1])],QZ [],QW [(1,[[5]])]⟩
def w3g:Info:=⟨QB [(6,[4]),(5,[4]),(4,[1,5,14]),(3,[1,5]),(2,[4]),(1,[1,2,8]),(0,[1,2])],QZ [],QW [(0,[[2]])]⟩
def UN:Info:=⟨QB [(4,[4,5]),(3,[4,5]),(2,[4,6,20]),(1,[2,4,6,7]),(0,[1,2,4])],QZ [(4,(.cons 0 true (.cons 2 false (.cons 3 false (.cons 1 true (.cons 4 true (.cons 5 true (.cons 6 true .nil))))))))],QW [(0,[[2]]),(1,[[6]])]⟩
def KG:Info:=⟨QB [(11,[2]),(10,[1,3,14,15,16]),(9,[1,3,5,14,15,16,23,24,25]),(8,[1,3,5,14,15,16,23,24,25]),(7,[1,3,5,7,14,15,16,23,24,25]),(6,[1,3,5,14,15,16,23,24,25,26]),(5,[1,3,5,14,15,16,23,24,25]),(4,[1,3,5,14,15,16]),(3,[1,3,14,15,16,17]),(2,[1,3,14,15,16]),(1,[1,3]),(0,[1])],QZ [],QW [(0,[[1]]),(4,[[5]])]⟩
def q6i:Info:=⟨QB [(6,[4]),(3,[4]),(5,[4]),(4,[0,1,8]),(2,[0,1,5,6]),(1,[0,1,5]),(0,[0,1])],QZ [(6,(.cons 0 true (.cons 1 true (.cons 2 true (.cons 3 true (.cons 4 true (.cons 5 true (.cons 6 true (.cons 7 true (.cons 8 true (.cons 9 true (.cons 10 true (.cons 11 true (.cons 12 true (.cons 13 true (.cons 14 true (.cons 15 true (.cons 16 true .nil))))))))))))))))))],QW []⟩
def FM:Info:=⟨QB [(14,[2]),(13,[0,3,9,10]),(12,[0,3,9,10]),(11,[0,3,4,9,10,33]),(10,[0,3,4,5,9,10,12,13,14]),(9,[0,3,4,5,9,10,12,13,14]),(8,[0,3,4,5,7,9,10,12,13,14,30]),(7,[0,3,4,5,7,9,10,12,13,14]),(6,[0,3,4,5,9,10,12,13,14,15]),(5,[0,3,4,5,9,10,12,13,14]),(4,[0,3,4,5,9,10]),(3,[0,3,9,10,11]),(2,[0,3,9,10]),(1,[0,3]),(0,[0])],QZ [],QW []⟩
def VA:Info:=⟨QB [(1,[4]),(0,[0,1])],QZ [],QW []⟩
def z6j:Info:=⟨QB [(8,[4]),(7,[5,46,47,48]),(6,[5,46,47,48]),(5,[5,7,46,47,48]),(4,[5,46,47,48,49]),(3,[5,46,47,48]),(2,[5]),(1,[5]),(0,[0,1])],QZ [(1,(.cons 18 true (.cons 19 true (.cons 0 false (.cons 1 false (.cons 2 false (.cons 3 false (.cons 4 false (.cons 5 false (.cons 6 false (.cons 7 false (.cons 8 false (.cons 9 false (.cons 10 false (.cons 11 false (.cons 12 false (.cons 13 false (.cons 14 false (.cons 15 false (.cons 16 false (.cons 17 false (.cons 20 true (.cons 21 true (.cons 22 true (.cons 23 true .nil)))))))))))))))))))))))))],QW []⟩
def LZ:Info:=⟨QB [(1,[2]),(0,[1])],QZ [],QW [(0,[[1]])]⟩
def MR:Info:=⟨QB [(7,[4]),(6,[1,7,8,9]),(5,[4]),(4,[1,7,8,9,15]),(3,[1,6,7,8,9]),(2,[1,7,8,9,10]),(1,[1,7,8,9]),(0,[0,1])],QZ [],QW []⟩
def DO:Info:=⟨QB [(14,[2]),(13,[0,3,9,10]),(12,[0,3,9,10]),(11,[0,3,4,9,10,33]),(10,[0,3,4,5,9,10,12,13,14]),(9,[0,3,4,5,9,10,12,13,14]),(8,[0,3,4,5,7,9,10,12,13,14,30]),(7,[0,3,4,5,7,9,10,12,13,14]),(6,[0,3,4,5,9,10,12,13,14,15]),(5,[0,3,4,5,9,10,12,13,14]),(4,[0,3,4,5,9,10]),(3,[0,3,9,10,11]),(2,[0,3,9,10]),(1,[0,3]),(0,[0])],QZ [],QW []⟩
def q6b:Info:=⟨QB [(24,[2]),(23,[0,3,4,7,69,70]),(22,[0,3,4,7,69,70]),(21,[0,3,4,7,8,9,69,70,86,87]),(20,[0,3,4,7,8,9,69,70,86,87]),(19,[0,3,4,7,8,9,10,69,70,86,87,95]),(18,[0,3,4,7,8,9,10,69,70,86,87]),(17,[0,3,4,7,8,9,69,70,86,87,88]),(16,[0,3,4,7,8,9,69,70,86,87]),(15,[0,3,4,7,8,9,69,70]),(14,[0,3,4,7,8,69,70,84]),(13,[0,3,4,7,8,69,70]),(12,[0,3,4,7,69,70,71]),(11,[0,3,4,7,69,70]),(10,[0,3,4,7]),(9,[0,3,4,43,44,45]),(8,[0,3,4,43,44,45]),(7,[0,3,4,6,43,44,45,59]),(6,[0,3,4,6,43,44,45]),(5,[0,3,4,43,44,45,46]),(4,[0,3,4,43,44,45]),(3,[0,3,4]),(2,[0,3,4]),(1,[0,3]),(0,[0])],QZ [(3,(.cons 0 true (.cons 1 true (.cons 2 true (.cons 3 true (.cons 5 true (.cons 6 true (.cons 7 true (.cons 8 true (.cons 9 true (.cons 10 true (.cons 11 true (.cons 12 true (.cons 13 true (.cons 4 false (.cons 14 true (.cons 15 true (.cons 16 true .nil)))))))))))))))))),(7,(.cons 0 true (.cons 1 true (.cons 2 true (.cons 3 true (.cons 4 true (.cons 5 true (.cons 6 true (.cons 7 true (.cons 8 true (.cons 9 true (.cons 10 true .nil))))))))))))],QW [(6,[[6]])]⟩
def JR:Info:=⟨QB [(21,[4]),(20,[1,5,16,17,18]),(19,[1,5,16,17,18]),(18,[1,5,8,16,17,18,66]),(17,[1,5,7,8,9,12,16,17,18,47,48,49]),(16,[1,5,7,8,9,12,16,17,18,47,48,49]),(15,[1,5,7,8,9,12,14,16,17,18,47,48,49]),(14,[1,5,7,8,9,12,16,17,18,47,48,49,50]),(13,[1,5,7,8,9,12,16,17,18,47,48,49]),(12,[1,5,7,8,9,12,16,17,18]),(11,[1,5,7,8,9,16,17,18,30,31,32]),(10,[1,5,7,8,9,16,17,18,30,31,32]),(9,[1,5,7,8,9,11,16,17,18,30,31,32]),(8,[1,5,7,8,9,16,17,18,30,31,32,33]),(7,[1,5,7,8,9,16,17,18,30,31,32]),(6,[1,5,7,8,9,16,17,18]),(5,[1,5,7,8,16,17,18]),(4,[1,5,7,16,17,18]),(3,[1,5,16,17,18,19]),(2,[1,5,16,17,18]),(1,[1,2,5]),(0,[1,2])],QZ [(10,(.cons 0 true (.cons 1 true (.cons 2 true (.cons 3 true (.cons 5 false (.cons 6 false (.cons 7 false (.cons 4 true (.cons 8 true (.cons 9 true (.cons 10 true .nil))))))))))))],QW [(0,[[2]]),(4,[[7]])]⟩
def x2j:Info:=⟨QB [(13,[2]),(12,[3,25,26,27]),(11,[3,25,26,27]),(10,[3,5,25,26,27,34]),(9,[3,5,25,26,27,33,34]),(8,[3,5,25,26,27,33,34]),(7,[3,5,25,26,27,33,34]),(6,[3,5,25,26,27,33]),(5,[3,5,25,26,27]),(4,[3,25,26,27,28]),(3,[3,25,26,27]),(2,[0,3]),(1,[0,3]),(0,[0])],QZ [(1,(.cons 0 true (.cons 2 false (.cons 3 false (.cons 4 false (.cons 5 false (.cons 1 true (.cons 6 true (.cons 7 true .nil))))))))),(3,(.cons 0 true (.cons 1 true (.cons 2 true (.cons 3 true (.cons 4 true (.cons 5 true (.cons 6 true (.cons 7 true (.cons 10 false (.cons 8 true (.cons 9 true .nil))))))))))))],QW [(5,[[5]])]⟩
def BT:Info:=⟨QB [(19,[2]),(18,[0,3,10,11]),(17,[0,3,10,11]),(16,[0,3,10,11]),(15,[0,3,4,8,10,11,69]),(14,[0,3,4,8,10,11]),(13,[0,3,4,10,11,43]),(12,[0,3,4,5,10,11,13,14,15]),(11,[0,3,4,5,10,11,13,14,15]),(10,[0,3,4,5,7,10,11,13,14,15,39]),(9,[0,3,4,5,7,10,11,13,14,15,32]),(8,[0,3,4,5,7,10,11,13,14,15]),(7,[0,3,4,5,10,11,13,14,15,16]),(6,[0,3,4,5,10,11,13,14,15]),(5,[0,3,4,5,10,11]),(4,[0,3,4,10,11]),(3,[0,3,10,11,12]),(2,[0,3,10,11]),(1,[0,3]),(0,[0])],QZ [(9,(.cons 0 true (.cons 1 true (.cons 2 true (.cons 3 true (.cons 4 true (.cons 5 true (.cons 6 true (.cons 7 true (.cons 8 true (.cons 9 true (.cons 10 true (.cons 11 true (.cons 12 true (.cons 13 true .nil))))))))))))))),(15,(.cons 0 true (.cons 1 true (.cons 2 true (.cons 3 true (.cons 4 true (.cons 5 true (.cons 6 true (.cons 7 true (.cons 8 true (.cons 9 true (.cons 10 true (.cons 11 true (.cons 12 true (.cons 13 true (.cons 14 true (.cons 15 true (.cons 16 true (.cons 17 true (.cons 18 true (.cons 19 true (.cons 20 true (.cons 21 true (.cons 22 true (.cons 23 true .nil))))))))))))))))))))))))),(16,(.cons 4 true (.cons 5 true (.cons 6 true (.cons 7 true (.cons 8 true (.cons 9 true (.cons 10 true (.cons 0 false (.cons 1 false (.cons 2 false (.cons 3 false (.cons 11 true (.cons 12 true (.cons 13 true .nil)))))))))))))))],QW [(8,[[7]])]⟩
def YG:Info:=⟨QB [(12,[4]),(11,[2,5,12,13,14]),(10,[2,5,7,12,13,14,19,20,21]),(9,[2,5,7,12,13,14,19,20,21]),(8,[2,5,7,9,12,13,14,19,20,21,35]),(7,[2,5,7,9,12,13,14,19,20,21]),(6,[2,5,7,12,13,14,19,20,21,22]),(5,[2,5,7,12,13,14,19,20,21]),(4,[2,5,7,12,13,14]),(3,[2,5,12,13,14,15]),(2,[2,5,12,13,14]),(1,[1,2,5]),(0,[1,2])],QZ [],QW [(0,[[2]]),(7,[[9]])]⟩
def FS:Info:=⟨QB [(13,[4]),(12,[0,1,5,11,12,13]),(11,[0,1,5,11,12,13]),(10,[0,1,5,7,8,11,12,13,17,18,19]),(9,[0,1,5,7,8,11,12,13,17,18,19]),(8,[0,1,5,7,8,10,11,12,13,17,18,19]),(7,[0,1,5,7,8,11,12,13,17,18,19,20]),(6,[0,1,5,7,8,11,12,13,17,18,19]),(5,[0,1,5,7,8,11,12,13]),(4,[0,1,5,7,11,12,13]),(3,[0,1,5,11,12,13,14]),(2,[0,1,5,11,12,13]),(1,[0,1,5]),(0,[0,1])],QZ [],QW []⟩
def FN:Info:=⟨QB [(7,[4]),(6,[0,1,7,8]),(5,[4]),(4,[0,1,5,7,8,16]),(3,[0,1,5,7,8]),(2,[0,1,7,8,9]),(1,[0,1,7,8]),(0,[0,1])],QZ [],QW []⟩
def q3k:Info:=⟨QB [(29,[2]),(28,[0,4,10,85,86]),(27,[0,4,10,11,85,86,93,94]),(26,[0,4,10,11,85,86,93,94]),(25,[0,4,10,11,12,85,86,93,94,103]),(24,[0,4,10,11,12,85,86,93,94]),(23,[0,4,10,11,85,86,93,94,95]),(22,[0,4,10,11,85,86,93,94]),(21,[0,4,10,11,85,86]),(20,[0,4,10,85,86,87]),(19,[0,4,10,85,86]),(18,[0,4,10]),(17,[0,3,4,37,38,39]),(14,[0,3,4,7,8,9,37,38,39]),(16,[0,3,4,7,8,9,37,38,39]),(15,[0,3,4,7,8,9,37,38,39,76]),(13,[0,3,4,7,8,9,37,38,39,51]),(12,[0,3,4,7,8,9,37,38,39]),(11,[0,3,4,7,8,37,38,39]),(10,[0,3,4,7,37,38,39]),(9,[0,3,4,37,38,39,40]),(8,[0,3,4,37,38,39]),(7,[0,3,4,21,22]),(6,[0,3,4,21,22]),(5,[0,3,4,5,21,22]),(4,[0,3,4,21,22,23]),(3,[0,3,4,21,22]),(2,[0,3,4]),(1,[0,3]),(0,[0])],QZ [],QW [(10,[[7]])]⟩
def KN:Info:=⟨QB [(2,[0,2,3]),(3,[0,2,3]),(1,[0,2,3,9]),(0,[0,2,3])],QZ [(3,(.cons 0 true (.cons 1 true (.cons 4 true (.cons 5 true (.cons 6 true (.cons 7 true (.cons 8 true (.cons 9 true (.cons 10 true (.cons 11 true (.cons 12 true (.cons 2 false (.cons 3 false (.cons 13 true (.cons 14 true (.cons 15 true .nil)))))))))))))))))],QW []⟩
def LH:Info:=⟨QB [(9,[2]),(8,[3,7,8,9]),(7,[2]),(6,[3,7,8,9,19]),(5,[3,7,8,9]),(4,[3,5,7,8,9]),(3,[3,7,8,9,10]),(2,[3,7,8,9]),(1,[1,3]),(0,[1])],QZ [],QW [(0,[[1]]),(4,[[5]])]⟩
def q2r:Info:=⟨QB [(1,[4]),(0,[0,3])],QZ [],QW [(0,[[3]])]⟩
def q0c:Info:=⟨QB [(24,[2]),(23,[7,79,80]),(22,[2]),(21,[7,79,80,108]),(20,[7,8,79,80]),(19,[7,79,80,81]),(18,[7,79,80]),(17,[2]),(16,[7,77]),(15,[7]),(14,[1,26,27,28]),(13,[1,26,27,28,61,62,63]),(12,[2]),(11,[1,26,27,28,61,62,63,70]),(10,[1,6,26,27,28,61,62,63]),(9,[1,26,27,28,61,62,63,64]),(8,[1,26,27,28,61,62,63]),(7,[2]),(6,[1,4,26,27,28,59]),(5,[1,4,26,27,28]),(4,[1,26,27,28,29]),(3,[1,26,27,28]),(2,[2]),(1,[1,24]),(0,[1])],QZ [],QW [(0,[[1]]),(5,[[4]]),(10,[[6]])]⟩
def PU:Info:=⟨QB [(3,[2]),(2,[2]),(1,[1,5]),(0,[1])],QZ [],QW [(0,[[1]])]⟩
def NM:Info:=⟨QB [(7,[4]),(6,[1,7,8,9]),(5,[4]),(4,[1,7,8,9,15]),(3,[1,6,7,8,9]),(2,[1,7,8,9,10]),(1,[1,7,8,9]),(0,[0,1])],QZ [],QW []⟩
def DF:Info:=⟨QB [(7,[4]),(2,[4]),(4,[4]),(6,[4]),(5,[0,1,16]),(3,[0,1,8]),(1,[0,1,5]),(0,[0,1])],QZ [(5,(.cons 0 true (.cons 1 true (.cons 2 true (.cons 3 true (.cons 4 true (.cons 5 true (.cons 6 true (.cons 7 true (.cons 8 true (.cons 9 true (.cons 10 true (.cons 11 true (.cons 12 true (.cons 13 true (.cons 14 true (.cons 15 true (.cons 16 true (.cons 17 true (.cons 18 true (.cons 19 true (.cons 20 true (.cons 21 true (.cons 22 true (.cons 23 true (.cons 24 true (.cons 25 true (.cons 26 true (.cons 27 true (.cons 28 true (.cons 29 true (.cons 30 true (.cons 31 true (.cons 32 true .nil)))))))))))))))))))))))))))))))))),(6,(.cons 0 true (.cons 1 true (.cons 2 true (.cons 3 true (.cons 4 true (.cons 5 true (.cons 6 true (.cons 7 true (.cons 8 true (.cons 9 true (.cons 10 true (.cons 11 true (.cons 12 true (.cons 13 true (.cons 14 true (.cons 15 true (.cons 16 true .nil))))))))))))))))))],QW []⟩
def q4c:Info:=⟨QB [(28,[2]),(23,[0,3,6,9,10]),(27,[0,3,6,9,10]),(26,[0,3,6,9,10,11,111]),(25,[0,3,6,9,10,11]),(24,[0,3,6,9,10,11]),(22,[0,3,6,9,10,93]),(21,[0,3,6,9,10]),(20,[0,3,6,9]),(19,[0,3,6,86]),(18,[0,3,6,9]),(17,[0,3,6,46,47]),(16,[0,3,6,7,46,47,62,63]),(15,[0,3,6,7,46,47,62,63]),(14,[0,3,6,7,8,46,47,62,63]),(13,[0,3,6,7,46,47,62,63,64]),(12,[0,3,6,7,46,47,62,63]),(11,[0,3,6,7,46,47]),(10,[0,3,6,7,46,47]),(9,[0,3,6,46,47,48]),(8,[0,3,6,46,47]),(7,[0,3,6]),(6,[0,3,20,21,22]),(5,[0,3,20,21,22]),(4,[0,3,5,20,21,22]),(3,[0,3,20,21,22,23]),(2,[0,3,20,21,22]),(1,[0,3]),(0,[0])],QZ [(5,(.cons 8 true (.cons 9 true (.cons 0 false (.cons 1 false (.cons 2 false (.cons 3 false (.cons 4 false (.cons 5 false (.cons 6 false (.cons 7 false (.cons 10 true (.cons 11 true (.cons 12 true (.cons 13 true .nil))))))))))))))),(15,(.cons 0 true (.cons 1 true (.cons 2 true (.cons 3 true (.cons 4 true (.cons 5 true (.cons 6 true (.cons 7 true (.cons 8 true (.cons 9 true (.cons 10 true (.cons 11 true (.cons 12 true (.cons 13 true (.cons 14 true (.cons 15 true (.cons 16 true (.cons 17 true (.cons 18 true .nil))))))))))))))))))))],QW [(4,[[5]])]⟩
def q6a:Info:=⟨QB [(16,[4]),(15,[1,49,50,51]),(14,[4]),(13,[1,49,50,51,59]),(12,[1,6,49,50,51]),(11,[1,49,50,51,52]),(10,[1,49,50,51]),(9,[4]),(8,[1,2,47]),(5,[4]),(7,[4]),(6,[1,2,30]),(4,[1,2,19,20]),(3,[1,2,19]),(2,[4]),(1,[1,2,17]),(0,[1,2])],QZ [(1,(.cons 0 true (.cons 1 true (.cons 2 true (.cons 6 true (.cons 7 true (.cons 3 false (.cons 4 false (.cons 5 false (.cons 8 true (.cons 9 true (.cons 10 true .nil))))))))))))],QW [(0,[[2]]),(12,[[6]])]⟩
def q1u:Info:=⟨QB [(1,[2]),(0,[0,2])],QZ [],QW []⟩
def NF:Info:=⟨QB [(1,[2]),(0,[0,2])],QZ [],QW []⟩
def LS:Info:=⟨QB [(1,[6]),(0,[0,4,5,6])],QZ [],QW [(0,[[4],[5]])]⟩
def LM:Info:=⟨QB [(3,[4]),(2,[4]),(1,[0,1,19]),(0,[0,1])],QZ [(1,(.cons 0 true (.cons 1 true (.cons 2 true (.cons 3 true (.cons 4 true (.cons 5 true (.cons 6 true (.cons 7 true (.cons 8 true (.cons 9 true (.cons 10 true (.cons 11 true (.cons 12 true (.cons 13 true (.cons 14 true .nil))))))))))))))))],QW []⟩
def GQ:Info:=⟨QB [(6,[4]),(4,[1,2,5]),(5,[1,2,5]),(3,[1,2,5,18]),(2,[1,2,5]),(1,[1,2]),(0,[1,2])],QZ [],QW [(0,[[2]])]⟩
def z5f:Info:=⟨QB [(18,[2]),(17,[3,27,28,29]),(16,[2]),(15,[3,27,28,29,77]),(14,[3,5,27,28,29,62,63,64]),(13,[2]),(12,[3,5,27,28,29,62,63,64,71]),(11,[3,5,7,27,28,29,62,63,64]),(10,[3,5,27,28,29,62,63,64,65]),(9,[3,5,27,28,29,62,63,64]),(8,[2]),(7,[3,5,27,28,29,60]),(6,[3,5,27,28,29]),(5,[3,27,28,29,30]),(4,[3,27,28,29]),(3,[1,3]),(2,[2]),(1,[1,23]),(0,[1])],QZ [],QW [(0,[[1]]),(6,[[5]]),(11,[[7]])]⟩
def x1e:Info:=⟨QB [(26,[2]),(25,[1,2,3,7,57,58,59]),(24,[1,2,3,7,9,57,58,59,76,77,78]),(23,[2]),(22,[1,2,3,7,9,12,57,58,59,76,77,78,88]),(21,[1,2,3,7,9,12,57,58,59,76,77,78]),(20,[1,2,3,7,9,57,58,59,76,77,78,79]),(19,[1,2,3,7,9,57,58,59,76,77,78]),(18,[2]),(17,[1,2,3,7,8,9,57,58,59,72]),(16,[1,2,3,7,8,9,10,57,58,59]),(15,[1,2,3,7,8,9,57,58,59]),(14,[1,2,3,7,57,58,59,60]),(13,[1,2,3,7,57,58,59]),(12,[1,2,3,7]),(11,[2]),(10,[1,2,3,52]),(9,[1,2,3,6]),(8,[1,2,3,18,19,20]),(7,[1,2,3,18,19,20]),(6,[1,2,3,5,18,19,20]),(5,[1,2,3,18,19,20,21]),(4,[1,2,3,18,19,20]),(3,[1,2,3]),(2,[2]),(1,[1,2,15]),(0,[1,2])],QZ [],QW [(0,[[1]]),(6,[[5]]),(15,[[9]]),(21,[[12]])]⟩
def x2q:Info:=⟨QB [(9,[2]),(8,[1,2,14,15,16]),(7,[2]),(6,[1,2,4,14,15,16,30]),(5,[1,2,4,14,15,16]),(4,[1,2,14,15,16,17]),(3,[1,2,14,15,16]),(2,[2]),(1,[1,2,8]),(0,[1,2])],QZ [],QW [(0,[[1]]),(5,[[4]])]⟩
def x5z:Info:=⟨QB [(20,[2]),(19,[2,3,16,17,18]),(18,[2]),(17,[2,3,16,17,18,60]),(16,[2,3,7,16,17,18]),(15,[2,3,5,6,16,17,18,25,26,27]),(14,[2]),(13,[2,3,5,6,9,16,17,18,25,26,27,46]),(12,[2,3,5,6,7,9,16,17,18,25,26,27]),(11,[2,3,5,6,9,16,17,18,25,26,27]),(10,[2,3,5,6,16,17,18,25,26,27,28]),(9,[2,3,5,6,16,17,18,25,26,27]),(8,[2,3,4,5,6,16,17,18]),(7,[2,3,4,5,6,16,17,18]),(6,[2,3,4,5,16,17,18]),(5,[2,3,16,17,18,19]),(4,[2,3,16,17,18]),(3,[2]),(2,[1,2,3,13]),(1,[1,2,3]),(0,[1,2])],QZ [],QW [(0,[[1]]),(6,[[5]]),(11,[[9]])]⟩
def x4q:Info:=⟨QB [(15,[2]),(14,[2,3,33,34,35]),(13,[2]),(12,[2,3,7,33,34,35,53]),(11,[2,3,7,33,34,35]),(10,[2,3,33,34,35,36]),(9,[2,3,33,34,35]),(8,[1,2,3,15,16,17]),(7,[1,2,3,15,16,17]),(6,[1,2,3,5,15,16,17]),(5,[1,2,3,15,16,17,18]),(4,[1,2,3,15,16,17]),(3,[1,2,3]),(2,[2]),(1,[1,2,11]),(0,[1,2])],QZ [(7,(.cons 3 true (.cons 4 true (.cons 5 true (.cons 0 false (.cons 1 false (.cons 2 false (.cons 6 true (.cons 7 true .nil)))))))))],QW [(0,[[1]]),(6,[[5]]),(11,[[7]])]⟩
def q4p:Info:=⟨QB [(15,[0,1,5,11,12,13]),(14,[0,1,5,11,12,13]),(13,[0,1,5,7,10,11,12,13]),(12,[0,1,5,7,10,11,12,13]),(11,[0,1,5,7,8,10,11,12,13,57]),(10,[0,1,5,7,8,10,11,12,13]),(9,[0,1,5,7,8,9,11,12,13]),(8,[0,1,5,7,8,9,11,12,13]),(7,[0,1,5,7,8,9,11,12,13,31]),(6,[0,1,5,6,7,8,9,11,12,13]),(5,[0,1,5,6,7,8,9,11,12,13]),(4,[0,1,5,6,7,8,11,12,13]),(3,[0,1,5,6,7,11,12,13]),(2,[0,1,5,11,12,13,14]),(1,[0,1,5,11,12,13]),(0,[0,1,5])],QZ [(9,(.cons 5 true (.cons 0 false (.cons 1 false (.cons 2 false (.cons 3 false (.fork 4 (.cons 6 true (.cons 7 true (.cons 8 true (.cons 9 true (.cons 10 true .nil))))) 6 (.cons 4 true (.cons 7 true (.cons 8 true (.cons 9 true (.cons 10 true .nil))))))))))))],QW [(0,[[5]]),(3,[[7]])]⟩
def q1b:Info:=⟨QB [(8,[2]),(7,[2,3]),(6,[1,2,3,18]),(5,[1,2,3]),(4,[1,2,3,13]),(3,[1,2,3]),(2,[1,2,3,8]),(1,[1,2,3]),(0,[1,2])],QZ [],QW [(0,[[1]])]⟩
def NW:Info:=⟨QB [(7,[4]),(6,[1,4,7,8,9]),(5,[4]),(4,[1,4,6,7,8,9,17]),(3,[1,4,6,7,8,9]),(2,[1,4,7,8,9,10]),(1,[1,4,7,8,9]),(0,[0,1,4])],QZ [],QW [(3,[[6]])]⟩
def NH:Info:=⟨QB [(8,[4]),(7,[3,5,8,9,10]),(6,[3,5,8,9,10]),(5,[3,5,7,8,9,10,25]),(4,[3,5,7,8,9,10]),(3,[3,5,8,9,10,11]),(2,[3,5,8,9,10]),(1,[0,3,5]),(0,[0,3])],QZ [],QW [(0,[[3]]),(4,[[7]])]⟩
def DA:Info:=⟨QB [(7,[8]),(6,[1,2,3,11,12,13]),(5,[8]),(4,[1,2,3,10,11,12,13,26]),(3,[1,2,3,10,11,12,13]),(2,[1,2,3,11,12,13,14]),(1,[1,2,3,11,12,13]),(0,[0,1,2,3])],QZ [],QW [(3,[[10]])]⟩
def KA:Info:=⟨QB [(19,[4]),(5,[4]),(7,[4]),(9,[4]),(12,[4]),(11,[7]),(18,[4]),(17,[4]),(16,[5,9,70]),(15,[3,5,9]),(14,[3,5,6,58]),(13,[3,5,6,18,58]),(10,[2,3,5,6,18,45]),(8,[2,3,5,6,18,42]),(6,[2,3,5,6,18,32]),(4,[2,3,5,6,18,19]),(3,[2,3,5,6,18]),(2,[2,3,5,6]),(1,[2,3,5]),(0,[2,3])],QZ [(5,(.cons 0 true (.cons 1 true (.cons 2 true (.cons 3 true (.cons 5 false (.cons 6 false (.cons 7 false (.cons 8 false (.cons 4 true (.cons 9 true (.cons 10 true (.cons 11 true .nil)))))))))))))],QW [(0,[[2],[3]])]⟩
def DD:Info:=⟨QB [(3,[4]),(2,[4]),(1,[0,1,10]),(0,[0,1])],QZ [],QW []⟩
def UL:Info:=⟨QB [(7,[4]),(6,[0,1,7,8]),(5,[4]),(4,[0,1,5,7,8,16]),(3,[0,1,5,7,8]),(2,[0,1,7,8,9]),(1,[0,1,7,8]),(0,[0,1])],QZ [],QW []⟩
def q0h:Info:=⟨QB [(11,[4]),(10,[0,5,17,18,19]),(9,[0,5,7,17,18,19,25,26,27]),(8,[0,5,7,17,18,19,25,26,27]),(7,[0,5,7,9,17,18,19,25,26,27]),(6,[0,5,7,17,18,19,25,26,27,28]),(5,[0,5,7,17,18,19,25,26,27]),(4,[0,5,7,17,18,19]),(3,[0,5,17,18,19,20]),(2,[0,5,17,18,19]),(1,[0,1,5]),(0,[0,1])],QZ [],QW [(4,[[7]])]⟩
def BN:Info:=⟨QB [(1,[4]),(0,[0,1])],QZ [(1,(.cons 4 true (.cons 5 true (.cons 0 false (.cons 1 false (.cons 2 false (.cons 3 false (.cons 6 true (.cons 7 true (.cons 8 true .nil))))))))))],QW []⟩
def MP:Info:=⟨QB [(13,[4]),(12,[5]),(11,[0,5,6,17,18,19]),(10,[0,5,6,17,18,19]),(9,[0,5,6,8,17,18,19]),(8,[0,5,6,8,17,18,19,32]),(7,[0,5,6,8,17,18,19]),(6,[0,5,6,17,18,19,20]),(5,[0,5,6,17,18,19]),(4,[0,1,5,6]),(3,[0,1,5]),(2,[4]),(1,[0,1,10]),(0,[0,1])],QZ [],QW []⟩
def JD:Info:=⟨QB [(8,[10]),(3,[0,1,2,3,4,11]),(7,[0,1,2,3,4,11]),(6,[0,1,2,3,4,11]),(5,[0,1,2,3,4,11,35]),(4,[0,1,2,3,4,11]),(2,[0,1,2,3,4,11,20]),(1,[0,1,2,3,4,11]),(0,[0,1,2,3,4])],QZ [(6,(.cons 0 true (.cons 1 true (.cons 2 true (.cons 3 true (.cons 4 true (.cons 5 true (.cons 6 true (.cons 7 true (.cons 8 true (.cons 9 true (.cons 10 true (.cons 11 true (.cons 12 true (.cons 13 true (.cons 14 true .nil)))))))))))))))),(7,(.cons 0 true (.cons 1 true (.cons 2 true (.cons 3 true (.cons 4 true (.cons 5 true (.cons 6 true (.cons 7 true (.cons 8 true (.cons 9 true (.cons 10 true (.cons 11 true (.cons 12 true (.cons 13 true (.cons 14 true .nil))))))))))))))))],QW []⟩
def MQ:Info:=⟨QB [(18,[2]),(8,[0,3,4,5,6]),(17,[0,3,4,5,6,8,60,61,62]),(16,[0,3,4,5,6,8,60,61,62]),(15,[0,3,4,5,6,8,10,60,61,62]),(14,[0,3,4,5,6,8,60,61,62,63]),(13,[0,3,4,5,6,8,60,61,62]),(12,[0,3,4,5,6,7,8]),(11,[0,3,4,5,6,7]),(10,[0,3,4,5,6]),(9,[0,3,4,5,6,40]),(7,[0,3,4,5,6,31]),(6,[0,3,4,5,6]),(5,[0,3,4,5]),(4,[0,3,4]),(3,[0,3]),(2,[2]),(1,[0,12]),(0,[0])],QZ [(11,(.cons 5 true (.cons 6 true (.cons 7 true (.cons 8 true (.cons 0 false (.cons 1 false (.cons 2 false (.cons 3 false (.cons 4 false (.cons 9 true (.cons 10 true (.cons 11 true .nil)))))))))))))],QW []⟩
def DM:Info:=⟨QB [(7,[4]),(6,[0,5,8,9,10]),(5,[0,5,8,9,10]),(4,[0,5,7,8,9,10]),(3,[0,5,8,9,10,11]),(2,[0,5,8,9,10]),(1,[0,1,5]),(0,[0,1])],QZ [(5,(.cons 1 true (.cons 2 true (.cons 3 true (.cons 0 false (.cons 5 false (.cons 6 false (.cons 7 false (.cons 4 true (.cons 8 true (.cons 9 true (.cons 10 true (.cons 11 true (.cons 12 true .nil))))))))))))))],QW [(4,[[7]])]⟩
def q1l:Info:=⟨QB [(12,[2]),(11,[0,3,9,10,11]),(10,[0,3,9,10,11,15,16,17]),(9,[0,3,9,10,11,15,16,17]),(8,[0,3,7,9,10,11,15,16,17,34]),(7,[0,3,7,9,10,11,15,16,17]),(6,[0,3,9,10,11,15,16,17,18]),(5,[0,3,9,10,11,15,16,17]),(4,[0,3,5,9,10,11]),(3,[0,3,9,10,11,12]),(2,[0,3,9,10,11]),(1,[0,3]),(0,[0])],QZ [],QW []⟩
def q6n:Info:=⟨QB [(1,[4]),(0,[0,1])],QZ [(1,(.cons 0 true (.cons 1 true (.cons 2 true (.cons 3 true (.cons 4 true (.cons 5 true (.cons 6 true (.cons 7 true (.cons 8 true (.cons 9 true (.cons 10 true (.cons 11 true (.cons 12 true (.cons 13 true (.cons 14 true (.cons 15 true (.cons 16 true (.cons 17 true (.cons 18 true (.cons 19 true (.cons 20 true (.cons 21 true .nil)))))))))))))))))))))))],QW []⟩
def x8z:Info:=⟨QB [(2,[2]),(1,[0]),(0,[0])],QZ [],QW []⟩
def GO:Info:=⟨QB [(5,[4]),(4,[4]),(3,[2,3,19]),(2,[4]),(1,[2,3,9]),(0,[2,3])],QZ [],QW [(0,[[2],[3]])]⟩
def DG:Info:=⟨QB [(11,[4]),(10,[0,1,9,10]),(9,[0,1,5,9,10,13,14,15]),(8,[0,1,5,9,10,13,14,15]),(7,[0,1,5,7,9,10,13,14,15,46]),(6,[0,1,5,7,9,10,13,14,15]),(5,[0,1,5,9,10,13,14,15,16]),(4,[0,1,5,9,10,13,14,15]),(3,[0,1,5,9,10]),(2,[0,1,9,10,11]),(1,[0,1,9,10]),(0,[0,1])],QZ [(7,(.cons 0 true (.cons 1 true (.cons 2 true (.cons 3 true (.cons 4 true (.cons 5 true (.cons 6 true (.cons 7 true (.cons 8 true (.cons 9 true (.cons 10 true (.cons 11 true (.cons 12 true (.cons 13 true (.cons 14 true (.cons 15 true (.cons 16 true (.cons 17 true (.cons 18 true (.cons 19 true (.cons 20 true (.cons 21 true (.cons 22 true (.cons 23 true (.cons 24 true (.cons 25 true (.cons 26 true (.cons 27 true .nil)))))))))))))))))))))))))))))],QW [(6,[[7]])]⟩
def HG:Info:=⟨QB [(3,[6]),(2,[6]),(1,[0,1,2,13]),(0,[0,1,2])],QZ [],QW []⟩
def WN:Info:=⟨QB [(7,[4]),(6,[0,1,7,8]),(5,[4]),(4,[0,1,5,7,8,16]),(3,[0,1,5,7,8]),(2,[0,1,7,8,9]),(1,[0,1,7,8]),(0,[0,1])],QZ [],QW []⟩
def MI:Info:=⟨QB [(1,[3]),(0,[1,2])],QZ [],QW [(0,[[2]])]⟩
def PI:Info:=⟨QB [(7,[2]),(6,[5,6,7]),(5,[2]),(4,[5,6,7,13]),(3,[4,5,6,7]),(2,[5,6,7,8]),(1,[5,6,7]),(0,[0])],QZ [],QW []⟩
def NI:Info:=⟨QB [(8,[2]),(5,[0,3]),(7,[2]),(6,[0,3,34]),(4,[0,3,20]),(3,[0,3]),(2,[2]),(1,[0,16]),(0,[0])],QZ [],QW []⟩
def q0z:Info:=⟨QB [(16,[2]),(15,[1,143,144,145]),(14,[2]),(13,[1,143,144,145,151]),(12,[1,7,143,144,145]),(11,[1,143,144,145,146]),(10,[1,143,144,145]),(9,[2]),(8,[1,141]),(7,[2]),(6,[1,5,117]),(5,[2]),(4,[1,4,5,92]),(3,[1,3,4,5]),(2,[1,3,4]),(1,[1,3]),(0,[1])],QZ [],QW [(0,[[1]]),(12,[[7]])]⟩
def UZ:Info:=⟨QB [(1,[2]),(0,[1])],QZ [],QW [(0,[[1]])]⟩
def MH:Info:=⟨QB [(8,[4]),(7,[1,2,15,16]),(6,[1,2,15,16]),(5,[1,2,5,15,16]),(4,[1,2,15,16,17]),(3,[1,2,15,16]),(2,[1,2]),(1,[1,2,8]),(0,[1,2])],QZ [],QW [(0,[[2]])]⟩
def x7k:Info:=⟨QB [(12,[4]),(11,[0,1,5,13,14]),(10,[0,1,5,6,13,14,20,21,22]),(9,[0,1,5,6,13,14,20,21,22]),(8,[0,1,5,6,8,13,14,20,21,22]),(7,[0,1,5,6,13,14,20,21,22,23]),(6,[0,1,5,6,13,14,20,21,22]),(5,[0,1,5,6,13,14]),(4,[0,1,5,6,13,14]),(3,[0,1,5,13,14,15]),(2,[0,1,5,13,14]),(1,[0,1,5]),(0,[0,1])],QZ [],QW []⟩
def KB:Info:=⟨QB [(9,[4]),(8,[0,1,12,13]),(7,[4]),(6,[0,1,12,13,24]),(5,[0,1,5,12,13]),(4,[0,1,12,13,14]),(3,[0,1,12,13]),(2,[4]),(1,[0,1,10]),(0,[0,1])],QZ [(6,(.cons 0 true (.cons 1 true (.cons 2 true (.cons 3 true (.cons 4 true (.cons 5 true (.cons 6 true (.cons 7 true (.cons 8 true .nil))))))))))],QW []⟩
def x9q:Info:=⟨QB [(7,[2]),(2,[2]),(4,[2]),(6,[2]),(5,[17]),(3,[0,10]),(1,[0,3]),(0,[0])],QZ [],QW []⟩
def z4z:Info:=⟨QB [(3,[2]),(2,[2]),(1,[0,16]),(0,[0])],QZ [],QW []⟩
def x4f:Info:=⟨QB [(7,[2]),(6,[5,6,7]),(5,[2]),(4,[5,6,7,13]),(3,[4,5,6,7]),(2,[5,6,7,8]),(1,[5,6,7]),(0,[0])],QZ [],QW []⟩
def KV:Info:=⟨QB [(12,[6]),(11,[0,2,16,17,18]),(10,[6]),(9,[0,2,16,17,18,69]),(8,[6]),(7,[0,2,8,16,17,18,53]),(6,[0,2,8,16,17,18]),(5,[0,2,8,16,17,18]),(4,[0,2,16,17,18,19]),(3,[0,2,16,17,18]),(2,[6]),(1,[0,1,2,15]),(0,[0,1,2])],QZ [(7,(.cons 0 true (.cons 1 true (.cons 2 true (.cons 3 true (.cons 4 true (.cons 5 true (.cons 6 true (.cons 7 true (.cons 8 true (.cons 9 true (.cons 10 true (.cons 11 true (.cons 12 true (.cons 13 true (.cons 14 true (.cons 15 true (.cons 16 true (.cons 17 true (.cons 18 true (.cons 19 true (.cons 20 true (.cons 21 true (.cons 22 true (.cons 23 true (.cons 24 true .nil))))))))))))))))))))))))))],QW [(5,[[8]])]⟩
def x4x:Info:=⟨QB [(7,[2]),(6,[0,5,6,7]),(5,[2]),(4,[0,5,6,7,16]),(3,[0,3,4,5,6,7]),(2,[0,5,6,7,8]),(1,[0,5,6,7]),(0,[0])],QZ [],QW []⟩
def x9m:Info:=⟨QB [(7,[2]),(6,[1,3,7,8,9]),(5,[1,3,7,8,9]),(4,[1,3,5,7,8,9]),(3,[1,3,7,8,9,10]),(2,[1,3,7,8,9]),(1,[1,3]),(0,[1])],QZ [],QW [(0,[[1]]),(4,[[5]])]⟩
def WL:Info:=⟨QB [(1,[4]),(0,[0,1])],QZ [],QW []⟩
def q8j:Info:=⟨QB [(1,[3]),(0,[0,1])],QZ [],QW []⟩
def x1s:Info:=⟨QB [(7,[8]),(6,[2,4,5,7,12,13,14]),(5,[8]),(4,[2,4,5,7,12,13,14,22]),(3,[2,4,5,7,10,12,13,14]),(2,[2,4,5,7,12,13,14,15]),(1,[2,4,5,7,12,13,14]),(0,[2,4,5,7])],QZ [],QW [(0,[[4],[5],[7]])]⟩
def x6d:Info:=⟨QB [(9,[4]),(8,[3,11,12,13]),(7,[4]),(6,[3,6,11,12,13,21]),(5,[3,6,11,12,13]),(4,[3,11,12,13,14]),(3,[3,11,12,13]),(2,[4]),(1,[2,3,9]),(0,[2,3])],QZ [],QW [(0,[[2],[3]]),(5,[[6]])]⟩
def q4w:Info:=⟨QB [(3,[2]),(2,[2]),(1,[1,6]),(0,[1])],QZ [],QW [(0,[[1]])]⟩
def x8u:Info:=⟨QB [(8,[4,5]),(7,[0,8,9,10]),(6,[0,8,9,10]),(5,[4,5]),(4,[0,7,8,9,10,16]),(3,[0,7,8,9,10]),(2,[0,8,9,10,11]),(1,[0,8,9,10]),(0,[0,1])],QZ [],QW []⟩
def x5d:Info:=⟨QB [(8,[4]),(4,[4]),(7,[4]),(6,[6]),(5,[0,3,16]),(3,[0,3,9,10]),(2,[0,3,9,10]),(1,[0,3,9]),(0,[0,3])],QZ [],QW [(0,[[3]])]⟩
def q5s:Info:=⟨QB [(20,[4]),(19,[6]),(18,[2,5,6,21,22,23]),(17,[2,5,6,21,22,23,31,32,33]),(16,[2,5,6,21,22,23,31,32,33,39,40,41]),(15,[2,5,6,21,22,23,31,32,33,39,40,41]),(14,[2,5,6,12,21,22,23,31,32,33,39,40,41,48]),(13,[2,5,6,12,21,22,23,31,32,33,39,40,41]),(12,[2,5,6,21,22,23,31,32,33,39,40,41,42]),(11,[2,5,6,21,22,23,31,32,33,39,40,41]),(10,[2,5,6,10,21,22,23,31,32,33]),(9,[2,5,6,21,22,23,31,32,33,34]),(8,[2,5,6,21,22,23,31,32,33]),(7,[2,5,6,8,21,22,23]),(6,[2,5,6,21,22,23,24]),(5,[2,5,6,21,22,23]),(4,[1,2,5,6]),(3,[1,2,5]),(2,[4]),(1,[1,2,16]),(0,[1,2])],QZ [],QW [(0,[[2]]),(10,[[10]])]⟩
def q8r:Info:=⟨QB [(10,[4]),(9,[1,2,5,9,10,11]),(8,[1,2,5,9,10,11]),(7,[4]),(6,[1,2,5,7,9,10,11,34]),(5,[1,2,5,7,9,10,11,17]),(4,[1,2,5,7,9,10,11]),(3,[1,2,5,9,10,11,12]),(2,[1,2,5,9,10,11]),(1,[1,2,5]),(0,[1,2])],QZ [],QW [(0,[[2]]),(4,[[7]])]⟩
def x8o:Info:=⟨QB [(12,[2]),(11,[3,21,22,23]),(10,[3,21,22,23]),(9,[3,7,21,22,23]),(8,[3,21,22,23,24]),(7,[3,21,22,23]),(6,[1,3,9,10,11]),(5,[1,3,9,10,11]),(4,[1,3,5,9,10,11]),(3,[1,3,9,10,11,12]),(2,[1,3,9,10,11]),(1,[1,3]),(0,[1])],QZ [],QW [(0,[[1]]),(4,[[5]]),(9,[[7]])]⟩
def PP:Info:=⟨QB [(30,[2]),(29,[1,2,3,55,56,57]),(28,[1,2,3,9,55,56,57,74,75,76]),(27,[2]),(26,[1,2,3,9,11,55,56,57,74,75,76,115]),(25,[1,2,3,9,11,55,56,57,74,75,76,82,83,84]),(24,[2]),(23,[1,2,3,9,11,55,56,57,74,75,76,82,83,84,92]),(22,[1,2,3,9,11,13,55,56,57,74,75,76,82,83,84]),(21,[1,2,3,9,11,55,56,57,74,75,76,82,83,84,85]),(20,[1,2,3,9,11,55,56,57,74,75,76,82,83,84]),(19,[1,2,3,9,11,55,56,57,74,75,76]),(18,[1,2,3,9,55,56,57,74,75,76,77]),(17,[1,2,3,9,55,56,57,74,75,76]),(16,[2]),(15,[1,2,3,9,55,56,57,71]),(14,[1,2,3,9,55,56,57]),(13,[1,2,3,55,56,57,58]),(12,[1,2,3,55,56,57]),(11,[2]),(10,[1,2,3,52]),(9,[1,2,3,6,7]),(8,[1,2,3,19,20,21]),(7,[1,2,3,19,20,21]),(6,[1,2,3,5,19,20,21]),(5,[1,2,3,19,20,21,22]),(4,[1,2,3,19,20,21]),(3,[1,2,3]),(2,[2]),(1,[1,2,16]),(0,[1,2])],QZ [(15,(.cons 1 false (.cons 2 false (.cons 4 false (.cons 7 false (.cons 8 false (.cons 0 true (.cons 3 true (.cons 5 true (.cons 6 true (.cons 9 true (.cons 10 true .nil))))))))))))],QW [(0,[[1]]),(6,[[5]]),(9,[[6]]),(14,[[9]]),(19,[[11]])]⟩
def PC:Info:=⟨QB [(7,[2]),(6,[1,2,6,7,8]),(5,[2]),(4,[1,2,4,6,7,8,22]),(3,[1,2,4,6,7,8]),(2,[1,2,6,7,8,9]),(1,[1,2,6,7,8]),(0,[1,2])],QZ [],QW [(0,[[1]]),(3,[[4]])]⟩
def PO:Info:=⟨QB [(22,[2]),(21,[2,13,14,15]),(20,[2]),(19,[2,13,14,15,80]),(18,[2,4,5,6,13,14,15,21,22,23]),(17,[2]),(16,[2,4,5,6,8,13,14,15,21,22,23,70]),(15,[2,4,5,6,8,9,13,14,15,21,22,23]),(14,[2,4,5,6,8,9,13,14,15,21,22,23,69]),(13,[2,4,5,6,8,9,13,14,15,21,22,23]),(12,[2,4,5,6,8,9,11,13,14,15,21,22,23]),(11,[2,4,5,6,8,9,13,14,15,21,22,23,43]),(10,[2,4,5,6,8,9,13,14,15,21,22,23]),(9,[2,4,5,6,8,13,14,15,21,22,23]),(8,[2,4,5,6,8,13,14,15,21,22,23]),(7,[2,4,5,6,13,14,15,21,22,23,24]),(6,[2,4,5,6,13,14,15,21,22,23]),(5,[2,4,5,6,13,14,15]),(4,[2,4,5,13,14,15]),(3,[2,4,13,14,15]),(2,[2,13,14,15,16]),(1,[2,13,14,15]),(0,[1,2])],QZ [(14,(.cons 0 true (.cons 1 true (.cons 2 true (.cons 3 true (.cons 4 true (.cons 5 true (.cons 7 false (.cons 8 false (.cons 9 false (.cons 6 true (.cons 10 true (.cons 11 true (.cons 12 true .nil))))))))))))))],QW [(0,[[1]]),(3,[[4]]),(8,[[8]])]⟩
def HT:Info:=⟨QB [(7,[2]),(6,[1,2,6,7,8]),(5,[2]),(4,[1,2,4,6,7,8,22]),(3,[1,2,4,6,7,8]),(2,[1,2,6,7,8,9]),(1,[1,2,6,7,8]),(0,[1,2])],QZ [],QW [(0,[[1]]),(3,[[4]])]⟩
def PV:Info:=⟨QB [(9,[6,7]),(8,[6,7]),(7,[27]),(6,[1,2,10,11,12]),(5,[6,7]),(4,[1,2,9,10,11,12,20]),(3,[1,2,9,10,11,12]),(2,[1,2,10,11,12,13]),(1,[1,2,10,11,12]),(0,[0,1,2])],QZ [],QW [(3,[[9]])]⟩
def DE:Info:=⟨QB [(13,[4,5]),(3,[0,1,6]),(8,[0,1,6,7,8]),(12,[0,1,6,7,8]),(11,[4,5]),(10,[0,1,6,7,8,53]),(9,[0,1,6,7,8,46]),(7,[0,1,6,7,8,36]),(6,[0,1,6,7,8]),(5,[0,1,6,7]),(4,[0,1,6,23]),(2,[0,1,6,13]),(1,[0,1,6]),(0,[0,1])],QZ [],QW []⟩
def q3f:Info:=⟨QB [(15,[4]),(3,[4]),(5,[4]),(7,[4]),(9,[4]),(11,[4]),(14,[4]),(13,[5]),(12,[0,3,58]),(10,[0,3,9,55]),(8,[0,3,9,50]),(6,[0,3,9,37]),(4,[0,3,9,25]),(2,[0,3,9,10]),(1,[0,3,9]),(0,[0,3])],QZ [(3,(.cons 0 true (.cons 1 true (.cons 2 true (.cons 3 true (.cons 4 true (.cons 6 false (.cons 7 false (.cons 8 false (.cons 9 false (.cons 10 false (.cons 5 true (.cons 11 true (.cons 12 true (.cons 13 true .nil))))))))))))))),(5,(.cons 0 true (.cons 1 true (.cons 2 true (.cons 3 true (.cons 4 true (.cons 5 true (.cons 7 false (.cons 8 false (.cons 6 true (.cons 9 true (.cons 10 true .nil)))))))))))),(7,(.cons 0 true (.cons 1 true (.cons 2 true (.cons 3 true (.cons 4 true (.cons 5 true (.cons 6 true (.cons 7 true (.cons 8 true (.cons 9 true (.cons 10 true (.cons 11 true .nil)))))))))))))],QW [(0,[[3]])]⟩
def x9b:Info:=⟨QB [(9,[4]),(8,[5,20,21,22]),(7,[5,20,21,22]),(6,[5,7,20,21,22]),(5,[5,20,21,22,23]),(4,[5,20,21,22]),(3,[1,5]),(2,[4]),(1,[0,1,13]),(0,[0,1])],QZ [(3,(.cons 0 false (.cons 2 false (.fork 1 (.cons 3 true (.cons 4 true (.cons 5 true (.cons 6 true .nil)))) 3 (.cons 1 true (.cons 4 true (.cons 5 true (.cons 6 true .nil))))))))],QW [(3,[[19]]),(6,[[7]])]⟩
def GE:Info:=⟨QB [(1,[4]),(0,[0,1])],QZ [],QW []⟩
def x4g:Info:=⟨QB [(11,[6]),(3,[0,1,2,7]),(10,[0,1,2,7,22,23,24]),(9,[0,1,2,7,22,23,24]),(8,[0,1,2,7,9,22,23,24]),(7,[0,1,2,7,9,22,23,24,32]),(6,[0,1,2,7,9,22,23,24]),(5,[0,1,2,7,22,23,24,25]),(4,[0,1,2,7,22,23,24]),(2,[0,1,2,7,13]),(1,[0,1,2,7]),(0,[0,1,2])],QZ [],QW []⟩
def q9u:Info:=⟨QB [(8,[2]),(7,[3,6,7,8]),(6,[3,6,7,8]),(5,[3,4,6,7,8,13]),(4,[3,4,5,6,7,8]),(3,[3,6,7,8,9]),(2,[3,6,7,8]),(1,[0,3]),(0,[0])],QZ [],QW []⟩
def q1y:Info:=⟨QB [(21,[2]),(20,[0,3,4,5,6,26,27]),(19,[0,3,4,5,6,26,27]),(18,[0,3,4,5,6,9,26,27]),(17,[0,3,4,5,6,9,26,27,96]),(16,[0,3,4,5,6,9,26,27]),(15,[0,3,4,5,6,8,9,26,27]),(14,[0,3,4,5,6,26,27]),(13,[0,3,4,5,6,26,27]),(12,[0,3,4,5,6,8,26,27,63]),(11,[0,3,4,5,6,8,26,27]),(10,[0,3,4,5,6,26,27,44]),(9,[0,3,4,5,6,26,27]),(8,[0,3,4,5,6,7,26,27]),(7,[0,3,4,5,6,7,26,27,34]),(6,[0,3,4,5,6,7,26,27]),(5,[0,3,4,5,6,26,27,28]),(4,[0,3,4,5,6,26,27]),(3,[0,3,4,5,6]),(2,[0,3,4,5]),(1,[0,3,4]),(0,[0])],QZ [(12,(.cons 0 true (.cons 1 true (.cons 2 true (.cons 3 true (.cons 4 true (.cons 5 true (.cons 6 true (.cons 7 true (.cons 8 true (.cons 9 true (.cons 10 true (.cons 11 true (.cons 12 true .nil)))))))))))))),(15,(.cons 0 true (.cons 1 true (.cons 2 true (.cons 3 true (.cons 4 true (.cons 5 true (.cons 6 true (.cons 7 true (.cons 8 true (.cons 9 true (.cons 10 true (.cons 11 true (.cons 12 true (.cons 13 true .nil)))))))))))))))],QW []⟩
def DZ:Info:=⟨QB [(8,[2]),(6,[0,3,4]),(7,[0,3,4]),(5,[0,3,4,15]),(4,[0,3,4]),(3,[0,3]),(2,[0]),(1,[0,7]),(0,[0])],QZ [],QW []⟩
def x1j:Info:=⟨QB [(1,[4]),(0,[2,3])],QZ [(1,(.cons 0 true (.cons 1 true (.cons 3 false (.cons 4 false (.cons 7 false (.cons 8 false (.cons 10 false (.cons 11 false (.cons 14 false (.cons 15 false (.cons 16 false (.cons 17 false (.cons 2 true (.cons 5 true (.cons 6 true (.cons 9 true (.cons 12 true (.cons 13 true (.cons 18 true (.cons 19 true (.cons 20 true (.cons 21 true .nil)))))))))))))))))))))))],QW [(0,[[2],[3]])]⟩
def x2w:Info:=⟨QB [(8,[2]),(7,[3,6,7,8]),(6,[2]),(5,[3,5,6,7,8,14]),(4,[3,5,6,7,8]),(3,[3,6,7,8,9]),(2,[3,6,7,8]),(1,[0,3]),(0,[0])],QZ [],QW []⟩
def q0d:Info:=⟨QB [(13,[4]),(12,[4]),(11,[19]),(10,[4]),(9,[0,1,16]),(8,[4]),(7,[0,1,13]),(6,[4]),(5,[4]),(4,[12]),(3,[0,1,6,11]),(2,[0,1,5,6]),(1,[0,1,5]),(0,[0,1])],QZ [],QW []⟩
def x8t:Info:=⟨QB [(3,[2]),(2,[2]),(1,[0,4]),(0,[0])],QZ [],QW []⟩
def WX:Info:=⟨QB [(16,[4]),(5,[0,1,5]),(15,[4]),(14,[0,5]),(10,[0,1,5,6,7]),(13,[0,1,5,6,7]),(12,[0,1,5,6,7]),(11,[0,1,5,6,7,49]),(9,[0,1,5,6,7,35]),(8,[0,1,5,6,7]),(7,[0,1,5,6]),(6,[0,1,5,28]),(4,[0,1,5,15]),(3,[0,1,5]),(2,[4]),(1,[0,1,10]),(0,[0,1])],QZ [(6,(.cons 0 true (.cons 1 true (.cons 2 true (.cons 3 true (.cons 4 true (.cons 5 true (.cons 6 true (.cons 7 true (.cons 8 true (.cons 9 true (.cons 10 true .nil)))))))))))),(11,(.cons 0 true (.cons 1 true (.cons 2 true (.cons 3 true (.cons 4 true (.cons 5 true (.cons 6 true (.cons 7 true (.cons 8 true (.cons 9 true (.cons 10 true (.cons 11 true .nil)))))))))))))],QW []⟩
def x2b:Info:=⟨QB [(1,[4]),(0,[2,3])],QZ [],QW [(0,[[2],[3]])]⟩
def x5a:Info:=⟨QB [(3,[2]),(2,[2]),(1,[1,5]),(0,[1])],QZ [],QW [(0,[[1]])]⟩
def PL:Info:=⟨QB [(1,[2]),(0,[0])],QZ [],QW []⟩
def PD:Info:=⟨QB [(1,[2]),(0,[0])],QZ [],QW []⟩
def NL:Info:=⟨QB [(7,[2]),(6,[0,5,6,7]),(5,[2]),(4,[0,5,6,7,13]),(3,[0,4,5,6,7]),(2,[0,5,6,7,8]),(1,[0,5,6,7]),(0,[0])],QZ [],QW []⟩
def MZ:Info:=⟨QB [(1,[2]),(0,[1])],QZ [],QW [(0,[[1]])]⟩
def LF:Info:=⟨QB [(3,[2]),(2,[2]),(1,[1,4]),(0,[1])],QZ [],QW [(0,[[1]])]⟩
def JJ:Info:=⟨QB [(10,[4]),(6,[1,2,5,6]),(9,[1,2,5,6]),(8,[1,2,5,6,7,32]),(7,[1,2,5,6,7]),(5,[1,2,5,6,19]),(4,[1,2,5,6]),(3,[1,2,5]),(2,[4]),(1,[1,2,9]),(0,[1,2])],QZ [],QW [(0,[[2]])]⟩
def ML:Info:=⟨QB [(9,[2]),(8,[1,48,49]),(7,[2]),(6,[1,48,49,58]),(5,[1,3,48,49]),(4,[1,48,49,50]),(3,[1,48,49]),(2,[2]),(1,[1,45]),(0,[1])],QZ [(1,(.cons 0 true (.cons 1 true (.cons 3 false (.cons 4 false (.cons 5 false (.cons 2 true (.cons 6 true (.cons 7 true (.cons 8 true (.cons 9 true (.cons 10 true (.cons 11 true (.cons 12 true (.cons 13 true (.cons 14 true (.cons 15 true (.cons 16 true (.cons 17 true (.cons 18 true (.cons 19 true (.cons 20 true (.cons 21 true (.cons 22 true (.cons 23 true (.cons 24 true (.cons 25 true (.cons 26 true (.cons 27 true (.cons 28 true (.cons 29 true (.cons 30 true (.cons 31 true (.cons 32 true (.cons 33 true (.cons 34 true (.cons 35 true (.cons 36 true (.cons 37 true (.cons 38 true (.cons 39 true (.cons 40 true (.cons 41 true .nil)))))))))))))))))))))))))))))))))))))))))))],QW [(0,[[1]])]⟩
def DN:Info:=⟨QB [(7,[4]),(6,[0,1,7,8,9]),(5,[4]),(4,[0,1,7,8,9,15]),(3,[0,1,6,7,8,9]),(2,[0,1,7,8,9,10]),(1,[0,1,7,8,9]),(0,[0,1])],QZ [],QW []⟩
def x7z:Info:=⟨QB [(1,[2]),(0,[0])],QZ [],QW []⟩
def z7f:Info:=⟨QB [(3,[4]),(2,[0,1]),(1,[0,1,20]),(0,[0,1])],QZ [],QW []⟩
def z3t:Info:=⟨QB [(16,[2]),(15,[2]),(14,[4]),(13,[3,4]),(12,[3,4]),(11,[3,4]),(10,[3,4]),(9,[3,4]),(8,[3,4]),(7,[3,4]),(6,[3,4]),(5,[3,4]),(4,[3,4]),(3,[3,4]),(2,[3,4]),(1,[3]),(0,[0])],QZ [],QW []⟩
def x2y:Info:=⟨QB [(26,[2]),(25,[2]),(24,[1,89]),(23,[2]),(22,[1,3,4,5,70]),(6,[1,3,4,5,6,7,8,9]),(9,[1,3,4,5,6,7,8,9]),(11,[1,3,4,5,6,7,8,9]),(13,[1,3,4,5,6,7,8,9]),(15,[1,3,4,5,6,7,8,9]),(17,[1,3,4,5,6,7,8,9]),(19,[1,3,4,5,6,7,8,9]),(4,[2]),(21,[1,3,4,5,6,7,8,9,37]),(20,[1,3,4,5,6,7,8,9,16,37]),(18,[1,3,4,5,6,7,8,9,16,33]),(16,[1,3,4,5,6,7,8,9,16,31]),(14,[1,3,4,5,6,7,8,9,16,29]),(12,[1,3,4,5,6,7,8,9,16,24]),(10,[1,3,4,5,6,7,8,9,16,22]),(8,[1,3,4,5,6,7,8,9,16,19]),(7,[1,3,4,5,6,7,8,9,16,19]),(5,[1,3,4,5,6,7,8,9,16,17]),(3,[1,3,4,5,6,7,8,9,16]),(2,[1,3,4,5,6,7,8,9]),(1,[1,3,4,5,6,7,8]),(0,[1])],QZ [(1,(.cons 0 true (.cons 1 true (.cons 2 true (.cons 3 true (.cons 4 true (.cons 5 true (.cons 6 true (.cons 7 true .nil)))))))))],QW [(0,[[1]])]⟩
def VS:Info:=⟨QB [(7,[4]),(6,[0,1,7,8]),(5,[4]),(4,[0,1,5,7,8,16]),(3,[0,1,5,7,8]),(2,[0,1,7,8,9]),(1,[0,1,7,8]),(0,[0,1])],QZ [],QW []⟩
def x4d:Info:=⟨QB [(12,[2]),(11,[3,25,26,27]),(10,[3,25,26,27]),(9,[3,5,25,26,27]),(8,[3,5,25,26,27,32]),(7,[3,5,25,26,27]),(6,[3,25,26,27,28]),(5,[3,25,26,27]),(4,[1,3]),(3,[1,3]),(2,[1,3,13]),(1,[1,3]),(0,[1])],QZ [],QW [(0,[[1]]),(7,[[5]])]⟩
def x6h:Info:=⟨QB [(13,[6]),(12,[6]),(11,[36]),(10,[6]),(9,[2,3,32]),(8,[2,3,4,10,11,12]),(7,[6]),(6,[2,3,4,10,11,12,27]),(5,[6]),(4,[2,3,4,8,10,11,12,23]),(3,[2,3,4,8,10,11,12]),(2,[2,3,4,10,11,12,13]),(1,[2,3,4,10,11,12]),(0,[2,3,4])],QZ [],QW [(0,[[3],[4]]),(3,[[8]])]⟩
def x7j:Info:=⟨QB [(9,[4]),(8,[1,12,13,14]),(7,[4]),(6,[1,12,13,14,26]),(5,[1,5,6,12,13,14]),(4,[1,12,13,14,15]),(3,[1,12,13,14]),(2,[4]),(1,[0,1,11]),(0,[0,1])],QZ [(6,(.cons 0 true (.cons 1 true (.cons 2 true (.cons 3 true (.cons 4 true (.cons 5 true (.cons 6 true (.cons 7 true .nil)))))))))],QW [(5,[[6]])]⟩
def q8f:Info:=⟨QB [(9,[6,7]),(8,[6,7]),(7,[37]),(6,[0,1,2,12,13,14]),(5,[6,7]),(4,[0,1,2,9,12,13,14,22]),(3,[0,1,2,9,12,13,14]),(2,[0,1,2,12,13,14,15]),(1,[0,1,2,12,13,14]),(0,[0,1,2])],QZ [],QW [(3,[[9]])]⟩
def x3h:Info:=⟨QB [(1,[4]),(0,[2,3])],QZ [],QW [(0,[[2],[3]])]⟩
def x9l:Info:=⟨QB [(12,[4]),(11,[5]),(4,[0,5,6]),(10,[0,5,6,22,23,24]),(9,[0,5,6,22,23,24]),(8,[0,5,6,8,22,23,24,31]),(7,[0,5,6,8,22,23,24]),(6,[0,5,6,22,23,24,25]),(5,[0,5,6,22,23,24]),(3,[0,5,6,14]),(2,[0,5,6]),(1,[0,5]),(0,[0,1])],QZ [],QW []⟩
def NZ:Info:=⟨QB [(1,[4]),(0,[0,1,4])],QZ [],QW []⟩
def PS:Info:=⟨QB [(7,[4,5]),(6,[1,4,9,10,11]),(5,[4,5]),(4,[1,4,7,9,10,11,18]),(3,[1,4,7,9,10,11]),(2,[1,4,9,10,11,12]),(1,[1,4,9,10,11]),(0,[1,2,4])],QZ [],QW [(0,[[2]]),(3,[[7]])]⟩
def PA:Info:=⟨QB [(10,[2]),(9,[0,6,7]),(6,[0,3,4,6,7]),(8,[2]),(7,[0,3,4,6,7,23]),(5,[0,3,4,6,7,12]),(4,[0,3,4,6,7]),(3,[0,3,6,7]),(2,[0,6,7,8]),(1,[0,6,7]),(0,[0])],QZ [(7,(.cons 0 true (.cons 1 true (.cons 2 true (.cons 3 true (.cons 4 true (.cons 5 true (.cons 6 true (.cons 7 true (.cons 8 true .nil))))))))))],QW []⟩
def BY:Info:=⟨QB [(7,[2]),(6,[3,7,8,9]),(5,[3,7,8,9]),(4,[3,5,7,8,9]),(3,[3,7,8,9,10]),(2,[3,7,8,9]),(1,[1,3]),(0,[1])],QZ [],QW [(0,[[1]]),(4,[[5]])]⟩
def MW:Info:=⟨QB [(13,[6]),(10,[6]),(12,[6]),(11,[34]),(9,[2,3,29]),(8,[2,3,4,10,11,12]),(7,[6]),(6,[2,3,4,10,11,12,27]),(5,[6]),(4,[2,3,4,8,10,11,12,23]),(3,[2,3,4,8,10,11,12]),(2,[2,3,4,10,11,12,13]),(1,[2,3,4,10,11,12]),(0,[2,3,4])],QZ [],QW [(0,[[3],[4]]),(3,[[8]])]⟩
def FY:Info:=⟨QB [(10,[4]),(9,[3,5,33,34]),(8,[4]),(7,[3,5,33,34,49]),(6,[3,5,7,33,34]),(5,[3,5,33,34,35]),(4,[3,5,33,34]),(3,[4]),(2,[3,5,30]),(1,[3,5,6]),(0,[2,3])],QZ [(7,(.cons 0 true (.cons 1 true (.cons 2 true (.cons 3 true (.cons 4 true (.cons 5 true (.cons 6 true (.cons 7 true (.cons 8 true (.cons 9 true (.cons 10 true (.cons 11 true (.cons 12 true .nil))))))))))))))],QW [(0,[[2],[3]]),(1,[[5]])]⟩
def BH:Info:=⟨QB [(7,[2]),(6,[1,3,7,8,9]),(5,[1,3,7,8,9]),(4,[1,3,5,7,8,9]),(3,[1,3,7,8,9,10]),(2,[1,3,7,8,9]),(1,[1,3]),(0,[1])],QZ [],QW [(0,[[1]]),(4,[[5]])]⟩
def PG:Info:=⟨QB [(14,[4]),(13,[2,3,5,21,22,23]),(12,[2,3,5,21,22,23]),(11,[2,3,5,7,21,22,23,45]),(10,[4]),(9,[2,3,5,7,21,22,23,43]),(8,[2,3,5,7,21,22,23]),(7,[2,3,5,21,22,23,24]),(6,[2,3,5,21,22,23]),(5,[2,3,5]),(4,[2,3,5,14]),(3,[2,3,5]),(2,[4]),(1,[2,3,11]),(0,[2,3])],QZ [(9,(.cons 0 true (.cons 1 true (.cons 2 true (.cons 3 true (.cons 4 true (.cons 5 true (.cons 6 true (.cons 7 true (.cons 8 true (.cons 9 true (.cons 10 true (.cons 12 false (.cons 13 false (.cons 11 true (.cons 14 true (.cons 15 true (.cons 16 true .nil))))))))))))))))))],QW [(0,[[2],[3]]),(8,[[7]])]⟩
def x9o:Info:=⟨QB [(3,[4]),(2,[4]),(1,[0,1,7]),(0,[0,1])],QZ [],QW []⟩
def q2e:Info:=⟨QB [(9,[6]),(8,[]),(7,[0,1,2,7]),(6,[0,1,2]),(5,[6]),(4,[0,1,2,7,31]),(3,[0,1,2,7,8]),(2,[6]),(1,[0,1,2,18]),(0,[0,1,2])],QZ [(6,(.cons 13 true (.cons 0 false (.cons 1 false (.cons 2 false (.cons 3 false (.cons 4 false (.cons 5 false (.cons 6 false (.cons 7 false (.cons 8 false (.cons 9 false (.cons 10 false (.cons 11 false (.cons 12 false (.cons 14 true (.cons 15 true (.cons 16 true (.cons 17 true .nil))))))))))))))))))),(8,(.cons 13 true (.cons 0 false (.cons 1 false (.cons 2 false (.cons 3 false (.cons 4 false (.cons 5 false (.cons 6 false (.cons 7 false (.cons 8 false (.cons 9 false (.cons 10 false (.cons 11 false (.cons 12 false (.cons 14 true (.cons 15 true (.cons 16 true (.cons 17 true .nil)))))))))))))))))))],QW []⟩
def q4l:Info:=⟨QB [(1,[2]),(0,[0])],QZ [],QW []⟩
def x2h:Info:=⟨QB [(8,[4]),(7,[1,23,24,25]),(6,[1,23,24,25]),(5,[1,6,23,24,25]),(4,[1,23,24,25,26]),(3,[1,23,24,25]),(2,[1,2]),(1,[1,2,16]),(0,[1,2])],QZ [],QW [(0,[[2]]),(5,[[6]])]⟩
def NX:Info:=⟨QB [(1,[0]),(0,[])],QZ [],QW []⟩
def PM:Info:=⟨QB [(7,[2]),(2,[2]),(4,[2]),(6,[2]),(5,[17]),(3,[0,10]),(1,[0,3]),(0,[0])],QZ [],QW []⟩
def x8h:Info:=⟨QB [(1,[2]),(0,[0])],QZ [],QW []⟩
def x6n:Info:=⟨QB [(1,[4]),(0,[0,1])],QZ [],QW []⟩
def x4o:Info:=⟨QB [(1,[4]),(0,[1,2])],QZ [],QW [(0,[[2]])]⟩
def x4z:Info:=⟨QB [(7,[2]),(6,[5,6,7]),(5,[2]),(4,[5,6,7,25]),(3,[4,5,6,7]),(2,[5,6,7,8]),(1,[5,6,7]),(0,[0])],QZ [],QW [(3,[[4]])]⟩
def ZA:Info:=⟨QB [(1,[4]),(0,[0,1])],QZ [],QW []⟩
def q6m:Info:=⟨QB [(1,[3]),(0,[1,2])],QZ [],QW [(0,[[2]])]⟩
def x2r:Info:=⟨QB [(9,[4]),(8,[5]),(7,[5,12,13,14]),(6,[5,12,13,14]),(5,[5,7,12,13,14,21]),(4,[5,7,12,13,14]),(3,[5,12,13,14,15]),(2,[5,12,13,14]),(1,[0,1,5]),(0,[0,1])],QZ [],QW [(4,[[7]])]⟩
def FT:Info:=⟨QB [(17,[4]),(16,[2,5,16,17,18]),(15,[2,5,16,17,18,29,30,31]),(14,[2,5,16,17,18,29,30,31,37,38,39]),(13,[2,5,16,17,18,29,30,31,37,38,39]),(12,[2,5,13,16,17,18,29,30,31,37,38,39,46]),(11,[2,5,13,16,17,18,29,30,31,37,38,39]),(10,[2,5,16,17,18,29,30,31,37,38,39,40]),(9,[2,5,16,17,18,29,30,31,37,38,39]),(8,[2,5,11,16,17,18,29,30,31]),(7,[2,5,16,17,18,29,30,31,32]),(6,[2,5,16,17,18,29,30,31]),(5,[2,5,8,16,17,18]),(4,[2,5,7,16,17,18]),(3,[2,5,16,17,18,19]),(2,[2,5,16,17,18]),(1,[1,2,5]),(0,[1,2])],QZ [],QW [(0,[[2]]),(5,[[8]]),(8,[[11]])]⟩
def z0z:Info:=⟨QB [(1,[2]),(0,[1])],QZ [],QW [(0,[[1]])]⟩
def BD:Info:=⟨QB [(11,[4]),(4,[2,5,6]),(10,[2,5,6,22,23,24]),(9,[2,5,6,22,23,24]),(8,[2,5,6,8,22,23,24,31]),(7,[2,5,6,8,22,23,24]),(6,[2,5,6,22,23,24,25]),(5,[2,5,6,22,23,24]),(3,[2,5,6,14]),(2,[2,5,6]),(1,[2,5]),(0,[1,2])],QZ [(5,(.cons 0 true (.cons 1 true (.cons 2 true (.cons 3 true (.cons 4 true (.cons 7 false (.cons 5 true (.cons 6 true .nil)))))))))],QW [(0,[[2]])]⟩
def PR:Info:=⟨QB [(9,[4]),(8,[7,17,18,19]),(7,[7,17,18,19]),(6,[7,9,17,18,19,26]),(5,[7,9,17,18,19]),(4,[7,17,18,19,20]),(3,[7,17,18,19]),(2,[5,7]),(1,[5]),(0,[1,2])],QZ [],QW [(0,[[2]]),(1,[[5]]),(5,[[9]])]⟩
open Go.Proofs
abbrev Str:=List UInt8
inductive X where
 | mk (op n:Int) (name:Str) (kids:List X)
namespace X
def op:X→Int | .mk a _ _ _=>a
def n:X→Int | .mk _ a _ _=>a
def name:X→Str | .mk _ _ a _=>a
def kids:X→List X | .mk _ _ _ a=>a
end X
structure Arg where
 ref:Bool
 name:Str
 x:X
inductive S where
 | mk (id kind:Int) (labels:List Str) (name proc:Str) (x:X) (has:Bool) (args:List Arg) (thn els:List S)
namespace S
def id:S→Int | .mk a _ _ _ _ _ _ _ _ _=>a
def kind:S→Int | .mk _ a _ _ _ _ _ _ _ _=>a
def labels:S→List Str | .mk _ _ a _ _ _ _ _ _ _=>a
def name:S→Str | .mk _ _ _ a _ _ _ _ _ _=>a
def proc:S→Str | .mk _ _ _ _ a _ _ _ _ _=>a
def x:S→X | .mk _ _ _ _ _ a _ _ _ _=>a
def has:S→Bool | .mk _ _ _ _ _ _ a _ _ _=>a
def args:S→List Arg | .mk _ _ _ _ _ _ _ a _ _=>a
def thn:S→List S | .mk _ _ _ _ _ _ _ _ a _=>a
def els:S→List S | .mk _ _ _ _ _ _ _ _ _ a=>a
end S
structure Param where
 name:Str
 ref:Bool
structure Pr where
 name:Str
 params:List Param
 vars:List Str
 body:List S
 fin:List Str
structure Pg where
 globals:List Str
 procs:List Pr
structure Step where
 src:Int
 dst:Int
 kind:Int
 deriving DecidableEq
def QD (l:List Str):AV := .sl (l.map .str)
def QF (l:List Int):AV := .sl (l.map (.int .i64))
mutual
def X.av:X→AV
 | .mk op n name kids => .agg [.int .i64 op,.int .i64 n,.str name,.sl (X.avs kids)]
def X.avs:List X→List AV
 | []=>[]
 | x::r=>X.av x::X.avs r
end
def X.cells (x:X):List AV:=[.int .i64 x.op,.int .i64 x.n,.str x.name,.sl (X.avs x.kids)]
theorem X.av_eq (x:X):x.av = .agg x.cells:=by cases x;simp only [X.av,X.cells,X.op,X.n,X.name,X.kids]
theorem X.avs_eq : ∀ l:List X,X.avs l=l.map fun x => .agg x.cells
 | []=>by simp only [X.avs,List.map_nil]
 | x::r=>by simp only [X.avs,X.av_eq,X.avs_eq r,List.map_cons]
def Arg.cells (a:Arg):List AV := .bool a.ref :: .str a.name::a.x.cells
mutual
def S.av:S→AV
 | .mk id kind labels name proc x has args thn els => .agg (.int .i64 id :: .int .i64 kind::QD labels :: .str name :: .str proc::(x.cells++[.bool has,.sl (args.map fun a => .agg a.cells),.sl (S.avs thn),.sl (S.avs els)]))
def S.avs:List S→List AV
 | []=>[]
 | x::r=>S.av x::S.avs r
end
def S.cells (s:S):List AV :=
 [.int .i64 s.id,.int .i64 s.kind,QD s.labels,.str s.name,.str s.proc,.int .i64 s.x.op,.int .i64 s.x.n,.str s.x.name,.sl (X.avs s.x.kids),.bool s.has,.sl (s.args.map fun a => .agg a.cells),.sl (S.avs s.thn),.sl (S.avs s.els)]
theorem S.av_eq (s:S):s.av = .agg s.cells:=by cases s;simp only [S.av,S.cells,X.cells,S.id,S.kind,S.labels,S.name,S.proc,S.x,S.has,S.args,S.thn,S.els,List.cons_append,List.nil_append]
theorem S.avs_eq : ∀ l:List S,S.avs l=l.map fun x => .agg x.cells
 | []=>by simp only [S.avs,List.map_nil]
 | x::r=>by simp only [S.avs,S.av_eq,S.avs_eq r,List.map_cons]
def eSs (l:List S):AV := .sl (S.avs l)
def w3q (l:List Arg):AV := .sl (l.map fun a => .agg a.cells)
def Param.cells (a:Param):List AV:=[.str a.name,.bool a.ref]
def Pr.cells (f:Pr):List AV:=[.str f.name,.sl (f.params.map fun a => .agg a.cells),QD f.vars,eSs f.body,QD f.fin]
def Pg.cells (p:Pg):List AV:=[QD p.globals,.sl (p.procs.map fun f => .agg f.cells)]
def Step.cells (s:Step):List AV:=[.int .i64 s.src,.int .i64 s.dst,.int .i64 s.kind]
def QL (l:List Step):AV := .sl (l.map fun s => .agg s.cells)
end Go.Ab
