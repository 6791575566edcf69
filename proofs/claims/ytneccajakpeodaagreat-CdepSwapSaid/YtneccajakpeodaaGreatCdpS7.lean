/- The table of the types that the program's text names. -/
import Derived.Test.YtneccajakpeodaaGreatChecked
import Derived.Deep.Slices
import Derived.Test.YtneccajakpeodaaGreatCdpS6
set_option linter.unusedSimpArgs false
set_option linter.unusedVariables false
set_option maxRecDepth 100000
set_option maxHeartbeats 16000000
namespace Go.Ab
open Go.Proofs
def ty0 : TyI := ⟨Go.TypeDesc.tuple #[], 1, 0, (.tuple #[])⟩
def ty2 : TyI := ⟨Go.TypeDesc.int (Go.IntKind.i64), 1, 8, (.int .i64 0)⟩
def ty3 : TyI := ⟨Go.TypeDesc.int (Go.IntKind.i64), 1, 8, (.int .i64 0)⟩
def ty4 : TyI := ⟨Go.TypeDesc.bool, 1, 1, (.bool false)⟩
def ty5 : TyI := ⟨Go.TypeDesc.int (Go.IntKind.u8), 1, 1, (.int .u8 0)⟩
def ty9 : TyI := ⟨Go.TypeDesc.string, 1, 16, (.string ByteArray.empty)⟩
def ty20 : TyI := ⟨Go.TypeDesc.interface #[], 1, 16, .nilIface⟩
def ty22 : TyI := ⟨Go.TypeDesc.slice 9, 1, 24, (.slice none 0 0)⟩
def ty23 : TyI := ⟨Go.TypeDesc.slice 67, 1, 24, (.slice none 0 0)⟩
def ty25 : TyI := ⟨Go.TypeDesc.struct #[{ name := "Globals", type := 22, offset := 0, embedded := false, tag := "", pkgPath := "", byteOffset := 0 }, { name := "Procs", type := 23, offset := 1, embedded := false, tag := "", pkgPath := "", byteOffset := 24 }], 2, 48, (.agg #[(.slice none 0 0), (.slice none 0 0)])⟩
def ty30 : TyI := ⟨Go.TypeDesc.tuple #[3, 4], 1, 0, (.tuple #[(.int .i64 0), (.bool false)])⟩
def ty33 : TyI := ⟨Go.TypeDesc.slice 79, 1, 24, (.slice none 0 0)⟩
def ty36 : TyI := ⟨Go.TypeDesc.slice 3, 1, 24, (.slice none 0 0)⟩
def ty42 : TyI := ⟨Go.TypeDesc.slice 36, 1, 24, (.slice none 0 0)⟩
def ty45 : TyI := ⟨Go.TypeDesc.slice 47, 1, 24, (.slice none 0 0)⟩
def ty47 : TyI := ⟨Go.TypeDesc.array 2 3, 2, 16, (.agg #[(.int .i64 0), (.int .i64 0)])⟩
def ty53 : TyI := ⟨Go.TypeDesc.slice 55, 1, 24, (.slice none 0 0)⟩
def ty55 : TyI := ⟨Go.TypeDesc.struct #[{ name := "Op", type := 3, offset := 0, embedded := false, tag := "", pkgPath := "", byteOffset := 0 }, { name := "N", type := 2, offset := 1, embedded := false, tag := "", pkgPath := "", byteOffset := 8 }, { name := "Name", type := 9, offset := 2, embedded := false, tag := "", pkgPath := "", byteOffset := 16 }, { name := "Kids", type := 53, offset := 3, embedded := false, tag := "", pkgPath := "", byteOffset := 32 }], 4, 56, (.agg #[(.int .i64 0), (.int .i64 0), (.string ByteArray.empty), (.slice none 0 0)])⟩
def ty56 : TyI := ⟨Go.TypeDesc.slice 73, 1, 24, (.slice none 0 0)⟩
def ty57 : TyI := ⟨Go.TypeDesc.slice 59, 1, 24, (.slice none 0 0)⟩
def ty59 : TyI := ⟨Go.TypeDesc.struct #[{ name := "Id", type := 3, offset := 0, embedded := false, tag := "", pkgPath := "", byteOffset := 0 }, { name := "Kind", type := 3, offset := 1, embedded := false, tag := "", pkgPath := "", byteOffset := 8 }, { name := "Labels", type := 22, offset := 2, embedded := false, tag := "", pkgPath := "", byteOffset := 16 }, { name := "Name", type := 9, offset := 3, embedded := false, tag := "", pkgPath := "", byteOffset := 40 }, { name := "Proc", type := 9, offset := 4, embedded := false, tag := "", pkgPath := "", byteOffset := 56 }, { name := "X", type := 55, offset := 5, embedded := false, tag := "", pkgPath := "", byteOffset := 72 }, { name := "Has", type := 4, offset := 9, embedded := false, tag := "", pkgPath := "", byteOffset := 128 }, { name := "Args", type := 56, offset := 10, embedded := false, tag := "", pkgPath := "", byteOffset := 136 }, { name := "Then", type := 57, offset := 11, embedded := false, tag := "", pkgPath := "", byteOffset := 160 }, { name := "Else", type := 57, offset := 12, embedded := false, tag := "", pkgPath := "", byteOffset := 184 }], 13, 208, (.agg #[(.int .i64 0), (.int .i64 0), (.slice none 0 0), (.string ByteArray.empty), (.string ByteArray.empty), (.int .i64 0), (.int .i64 0), (.string ByteArray.empty), (.slice none 0 0), (.bool false), (.slice none 0 0), (.slice none 0 0), (.slice none 0 0)])⟩
def ty65 : TyI := ⟨Go.TypeDesc.slice 71, 1, 24, (.slice none 0 0)⟩
def ty67 : TyI := ⟨Go.TypeDesc.struct #[{ name := "Name", type := 9, offset := 0, embedded := false, tag := "", pkgPath := "", byteOffset := 0 }, { name := "Params", type := 65, offset := 1, embedded := false, tag := "", pkgPath := "", byteOffset := 16 }, { name := "Vars", type := 22, offset := 2, embedded := false, tag := "", pkgPath := "", byteOffset := 40 }, { name := "Body", type := 57, offset := 3, embedded := false, tag := "", pkgPath := "", byteOffset := 64 }, { name := "End", type := 22, offset := 4, embedded := false, tag := "", pkgPath := "", byteOffset := 88 }], 5, 112, (.agg #[(.string ByteArray.empty), (.slice none 0 0), (.slice none 0 0), (.slice none 0 0), (.slice none 0 0)])⟩
def ty68 : TyI := ⟨Go.TypeDesc.tuple #[67, 4], 1, 0, (.tuple #[(.agg #[(.string ByteArray.empty), (.slice none 0 0), (.slice none 0 0), (.slice none 0 0), (.slice none 0 0)]), (.bool false)])⟩
def ty71 : TyI := ⟨Go.TypeDesc.struct #[{ name := "Name", type := 9, offset := 0, embedded := false, tag := "", pkgPath := "", byteOffset := 0 }, { name := "Ref", type := 4, offset := 1, embedded := false, tag := "", pkgPath := "", byteOffset := 16 }], 2, 24, (.agg #[(.string ByteArray.empty), (.bool false)])⟩
def ty73 : TyI := ⟨Go.TypeDesc.struct #[{ name := "Ref", type := 4, offset := 0, embedded := false, tag := "", pkgPath := "", byteOffset := 0 }, { name := "Name", type := 9, offset := 1, embedded := false, tag := "", pkgPath := "", byteOffset := 8 }, { name := "X", type := 55, offset := 2, embedded := false, tag := "", pkgPath := "", byteOffset := 24 }], 6, 80, (.agg #[(.bool false), (.string ByteArray.empty), (.int .i64 0), (.int .i64 0), (.string ByteArray.empty), (.slice none 0 0)])⟩
def ty79 : TyI := ⟨Go.TypeDesc.struct #[{ name := "From", type := 3, offset := 0, embedded := false, tag := "", pkgPath := "", byteOffset := 0 }, { name := "To", type := 3, offset := 1, embedded := false, tag := "", pkgPath := "", byteOffset := 8 }, { name := "Kind", type := 3, offset := 2, embedded := false, tag := "", pkgPath := "", byteOffset := 16 }], 3, 24, (.agg #[(.int .i64 0), (.int .i64 0), (.int .i64 0)])⟩
def ty88 : TyI := ⟨Go.TypeDesc.int (Go.IntKind.i64), 1, 8, (.int .i64 0)⟩
def ty90 : TyI := ⟨Go.TypeDesc.struct #[{ name := "Code", type := 88, offset := 0, embedded := false, tag := "", pkgPath := "", byteOffset := 0 }, { name := "At", type := 3, offset := 1, embedded := false, tag := "", pkgPath := "", byteOffset := 8 }], 2, 16, (.agg #[(.int .i64 0), (.int .i64 0)])⟩
def ty93 : TyI := ⟨Go.TypeDesc.func #[3, 3] #[3] false, 1, 8, .nilFunc⟩
def ty94 : TyI := ⟨Go.TypeDesc.pointer 101, 1, 8, (.pointer none)⟩
def ty98 : TyI := ⟨Go.TypeDesc.struct #[{ name := "S", type := 59, offset := 0, embedded := false, tag := "", pkgPath := "", byteOffset := 0 }, { name := "Proc", type := 3, offset := 13, embedded := false, tag := "", pkgPath := "", byteOffset := 208 }, { name := "Up", type := 3, offset := 14, embedded := false, tag := "", pkgPath := "", byteOffset := 216 }, { name := "Next", type := 3, offset := 15, embedded := false, tag := "", pkgPath := "", byteOffset := 224 }, { name := "Loop", type := 3, offset := 16, embedded := false, tag := "", pkgPath := "", byteOffset := 232 }], 17, 240, (.agg #[(.int .i64 0), (.int .i64 0), (.slice none 0 0), (.string ByteArray.empty), (.string ByteArray.empty), (.int .i64 0), (.int .i64 0), (.string ByteArray.empty), (.slice none 0 0), (.bool false), (.slice none 0 0), (.slice none 0 0), (.slice none 0 0), (.int .i64 0), (.int .i64 0), (.int .i64 0), (.int .i64 0)])⟩
def ty99 : TyI := ⟨Go.TypeDesc.slice 98, 1, 24, (.slice none 0 0)⟩
def ty101 : TyI := ⟨Go.TypeDesc.struct #[{ name := "P", type := 25, offset := 0, embedded := false, tag := "", pkgPath := "", byteOffset := 0 }, { name := "L", type := 99, offset := 2, embedded := false, tag := "", pkgPath := "", byteOffset := 48 }, { name := "Lo", type := 36, offset := 3, embedded := false, tag := "", pkgPath := "", byteOffset := 72 }, { name := "Hi", type := 36, offset := 4, embedded := false, tag := "", pkgPath := "", byteOffset := 96 }], 5, 120, (.agg #[(.slice none 0 0), (.slice none 0 0), (.slice none 0 0), (.slice none 0 0), (.slice none 0 0)])⟩
def ty103 : TyI := ⟨Go.TypeDesc.struct #[{ name := "S", type := 59, offset := 0, embedded := false, tag := "", pkgPath := "", byteOffset := 0 }, { name := "Deep", type := 3, offset := 13, embedded := false, tag := "", pkgPath := "", byteOffset := 208 }, { name := "In", type := 3, offset := 14, embedded := false, tag := "", pkgPath := "", byteOffset := 216 }, { name := "Else", type := 4, offset := 15, embedded := false, tag := "", pkgPath := "", byteOffset := 224 }], 16, 232, (.agg #[(.int .i64 0), (.int .i64 0), (.slice none 0 0), (.string ByteArray.empty), (.string ByteArray.empty), (.int .i64 0), (.int .i64 0), (.string ByteArray.empty), (.slice none 0 0), (.bool false), (.slice none 0 0), (.slice none 0 0), (.slice none 0 0), (.int .i64 0), (.int .i64 0), (.bool false)])⟩
def ty104 : TyI := ⟨Go.TypeDesc.tuple #[103, 9, 4], 1, 0, (.tuple #[(.agg #[(.int .i64 0), (.int .i64 0), (.slice none 0 0), (.string ByteArray.empty), (.string ByteArray.empty), (.int .i64 0), (.int .i64 0), (.string ByteArray.empty), (.slice none 0 0), (.bool false), (.slice none 0 0), (.slice none 0 0), (.slice none 0 0), (.int .i64 0), (.int .i64 0), (.bool false)]), (.string ByteArray.empty), (.bool false)])⟩
def ty106 : TyI := ⟨Go.TypeDesc.slice 103, 1, 24, (.slice none 0 0)⟩
def ty107 : TyI := ⟨Go.TypeDesc.tuple #[106, 4], 1, 0, (.tuple #[(.slice none 0 0), (.bool false)])⟩
def ty110 : TyI := ⟨Go.TypeDesc.pointer 114, 1, 8, (.pointer none)⟩
def ty112 : TyI := ⟨Go.TypeDesc.slice 4, 1, 24, (.slice none 0 0)⟩
def ty114 : TyI := ⟨Go.TypeDesc.struct #[{ name := "S", type := 94, offset := 0, embedded := false, tag := "", pkgPath := "", byteOffset := 0 }, { name := "Proc", type := 3, offset := 1, embedded := false, tag := "", pkgPath := "", byteOffset := 8 }, { name := "N", type := 3, offset := 2, embedded := false, tag := "", pkgPath := "", byteOffset := 16 }, { name := "Real", type := 33, offset := 3, embedded := false, tag := "", pkgPath := "", byteOffset := 24 }, { name := "Live", type := 112, offset := 4, embedded := false, tag := "", pkgPath := "", byteOffset := 48 }], 5, 72, (.agg #[(.pointer none), (.int .i64 0), (.int .i64 0), (.slice none 0 0), (.slice none 0 0)])⟩
def ty116 : TyI := ⟨Go.TypeDesc.struct #[{ name := "L", type := 106, offset := 0, embedded := false, tag := "", pkgPath := "", byteOffset := 0 }, { name := "End", type := 22, offset := 1, embedded := false, tag := "", pkgPath := "", byteOffset := 24 }], 2, 48, (.agg #[(.slice none 0 0), (.slice none 0 0)])⟩
def ty117 : TyI := ⟨Go.TypeDesc.tuple #[116, 4], 1, 0, (.tuple #[(.agg #[(.slice none 0 0), (.slice none 0 0)]), (.bool false)])⟩
def ty125 : TyI := ⟨Go.TypeDesc.slice 116, 1, 24, (.slice none 0 0)⟩
def ty126 : TyI := ⟨Go.TypeDesc.slice 33, 1, 24, (.slice none 0 0)⟩
def ty132 : TyI := ⟨Go.TypeDesc.slice 112, 1, 24, (.slice none 0 0)⟩
def ty139 : TyI := ⟨Go.TypeDesc.pointer 144, 1, 8, (.pointer none)⟩
def ty141 : TyI := ⟨Go.TypeDesc.slice 110, 1, 24, (.slice none 0 0)⟩
def ty142 : TyI := ⟨Go.TypeDesc.slice 22, 1, 24, (.slice none 0 0)⟩
def ty144 : TyI := ⟨Go.TypeDesc.struct #[{ name := "S", type := 94, offset := 0, embedded := false, tag := "", pkgPath := "", byteOffset := 0 }, { name := "Ways", type := 141, offset := 1, embedded := false, tag := "", pkgPath := "", byteOffset := 8 }, { name := "Defs", type := 142, offset := 2, embedded := false, tag := "", pkgPath := "", byteOffset := 32 }, { name := "Uses", type := 142, offset := 3, embedded := false, tag := "", pkgPath := "", byteOffset := 56 }, { name := "Ins", type := 142, offset := 4, embedded := false, tag := "", pkgPath := "", byteOffset := 80 }, { name := "Outs", type := 142, offset := 5, embedded := false, tag := "", pkgPath := "", byteOffset := 104 }], 6, 128, (.agg #[(.pointer none), (.slice none 0 0), (.slice none 0 0), (.slice none 0 0), (.slice none 0 0), (.slice none 0 0)])⟩
def ty166 : TyI := ⟨Go.TypeDesc.pointer 213, 1, 8, (.pointer none)⟩
def ty171 : TyI := ⟨Go.TypeDesc.int (Go.IntKind.u64), 1, 8, (.int .u64 0)⟩
def ty176 : TyI := ⟨Go.TypeDesc.func #[79, 79] #[4] false, 1, 8, .nilFunc⟩
def ty181 : TyI := ⟨Go.TypeDesc.tuple #[57, 3], 1, 0, (.tuple #[(.slice none 0 0), (.int .i64 0)])⟩
def ty185 : TyI := ⟨Go.TypeDesc.func #[67] #[4] false, 1, 8, .nilFunc⟩
def ty186 : TyI := ⟨Go.TypeDesc.func #[9] #[4] false, 1, 8, .nilFunc⟩
def ty194 : TyI := ⟨Go.TypeDesc.pointer 196, 1, 8, (.pointer none)⟩
def ty196 : TyI := ⟨Go.TypeDesc.struct #[{ name := "seen", type := 3, offset := 0, embedded := false, tag := "", pkgPath := "whittler/tree", byteOffset := 0 }], 1, 8, (.agg #[(.int .i64 0)])⟩
def ty202 : TyI := ⟨Go.TypeDesc.tuple #[22, 4], 1, 0, (.tuple #[(.slice none 0 0), (.bool false)])⟩
def ty205 : TyI := ⟨Go.TypeDesc.map 9 22, 1, 8, (.map none)⟩
def ty213 : TyI := ⟨Go.TypeDesc.struct #[{ name := "next", type := 42, offset := 0, embedded := false, tag := "", pkgPath := "whittler/graph", byteOffset := 0 }, { name := "prev", type := 42, offset := 1, embedded := false, tag := "", pkgPath := "whittler/graph", byteOffset := 24 }], 2, 48, (.agg #[(.slice none 0 0), (.slice none 0 0)])⟩
def ty217 : TyI := ⟨Go.TypeDesc.int (Go.IntKind.i64), 1, 8, (.int .i64 0)⟩
def ty218 : TyI := ⟨Go.TypeDesc.tuple #[3, 217], 1, 0, (.tuple #[(.int .i64 0), (.int .i64 0)])⟩
def ty227 : TyI := ⟨Go.TypeDesc.int (Go.IntKind.u64), 1, 8, (.int .u64 0)⟩
def ty231 : TyI := ⟨Go.TypeDesc.func #[79, 79] #[3] false, 1, 8, .nilFunc⟩
def ty248 : TyI := ⟨Go.TypeDesc.int (Go.IntKind.u64), 1, 8, (.int .u64 0)⟩
def ty252 : TyI := ⟨Go.TypeDesc.pointer 3, 1, 8, (.pointer none)⟩
def ty265 : TyI := ⟨Go.TypeDesc.pointer 248, 1, 8, (.pointer none)⟩
def ty266 : TyI := ⟨Go.TypeDesc.tuple #[3, 3], 1, 0, (.tuple #[(.int .i64 0), (.int .i64 0)])⟩
def tab : Tab := [(0, ty0), (2, ty2), (3, ty3), (4, ty4), (5, ty5), (9, ty9), (20, ty20), (22, ty22), (23, ty23), (25, ty25), (30, ty30), (33, ty33), (36, ty36), (42, ty42), (45, ty45), (47, ty47), (53, ty53), (55, ty55), (56, ty56), (57, ty57), (59, ty59), (65, ty65), (67, ty67), (68, ty68), (71, ty71), (73, ty73), (79, ty79), (88, ty88), (90, ty90), (93, ty93), (94, ty94), (98, ty98), (99, ty99), (101, ty101), (103, ty103), (104, ty104), (106, ty106), (107, ty107), (110, ty110), (112, ty112), (114, ty114), (116, ty116), (117, ty117), (125, ty125), (126, ty126), (132, ty132), (139, ty139), (141, ty141), (142, ty142), (144, ty144), (166, ty166), (171, ty171), (176, ty176), (181, ty181), (185, ty185), (186, ty186), (194, ty194), (196, ty196), (202, ty202), (205, ty205), (213, ty213), (217, ty217), (218, ty218), (227, ty227), (231, ty231), (248, ty248), (252, ty252), (265, ty265), (266, ty266)]
theorem tabOK : TabOK Tryz.prog tab :=
 (TabOK.cons (by kernel_rfl) (by kernel_rfl)
 (TabOK.cons (by kernel_rfl) (by kernel_rfl)
 (TabOK.cons (by kernel_rfl) (by kernel_rfl)
 (TabOK.cons (by kernel_rfl) (by kernel_rfl)
 (TabOK.cons (by kernel_rfl) (by kernel_rfl)
 (TabOK.cons (by kernel_rfl) (by kernel_rfl)
 (TabOK.cons (by kernel_rfl) (by kernel_rfl)
 (TabOK.cons (by kernel_rfl) (by kernel_rfl)
 (TabOK.cons (by kernel_rfl) (by kernel_rfl)
 (TabOK.cons (by kernel_rfl) (by kernel_rfl)
 (TabOK.cons (by kernel_rfl) (by kernel_rfl)
 (TabOK.cons (by kernel_rfl) (by kernel_rfl)
 (TabOK.cons (by kernel_rfl) (by kernel_rfl)
 (TabOK.cons (by kernel_rfl) (by kernel_rfl)
 (TabOK.cons (by kernel_rfl) (by kernel_rfl)
 (TabOK.cons (by kernel_rfl) (by kernel_rfl)
 (TabOK.cons (by kernel_rfl) (by kernel_rfl)
 (TabOK.cons (by kernel_rfl) (by kernel_rfl)
 (TabOK.cons (by kernel_rfl) (by kernel_rfl)
 (TabOK.cons (by kernel_rfl) (by kernel_rfl)
 (TabOK.cons (by kernel_rfl) (by kernel_rfl)
 (TabOK.cons (by kernel_rfl) (by kernel_rfl)
 (TabOK.cons (by kernel_rfl) (by kernel_rfl)
 (TabOK.cons (by kernel_rfl) (by kernel_rfl)
 (TabOK.cons (by kernel_rfl) (by kernel_rfl)
 (TabOK.cons (by kernel_rfl) (by kernel_rfl)
 (TabOK.cons (by kernel_rfl) (by kernel_rfl)
 (TabOK.cons (by kernel_rfl) (by kernel_rfl)
 (TabOK.cons (by kernel_rfl) (by kernel_rfl)
 (TabOK.cons (by kernel_rfl) (by kernel_rfl)
 (TabOK.cons (by kernel_rfl) (by kernel_rfl)
 (TabOK.cons (by kernel_rfl) (by kernel_rfl)
 (TabOK.cons (by kernel_rfl) (by kernel_rfl)
 (TabOK.cons (by kernel_rfl) (by kernel_rfl)
 (TabOK.cons (by kernel_rfl) (by kernel_rfl)
 (TabOK.cons (by kernel_rfl) (by kernel_rfl)
 (TabOK.cons (by kernel_rfl) (by kernel_rfl)
 (TabOK.cons (by kernel_rfl) (by kernel_rfl)
 (TabOK.cons (by kernel_rfl) (by kernel_rfl)
 (TabOK.cons (by kernel_rfl) (by kernel_rfl)
 (TabOK.cons (by kernel_rfl) (by kernel_rfl)
 (TabOK.cons (by kernel_rfl) (by kernel_rfl)
 (TabOK.cons (by kernel_rfl) (by kernel_rfl)
 (TabOK.cons (by kernel_rfl) (by kernel_rfl)
 (TabOK.cons (by kernel_rfl) (by kernel_rfl)
 (TabOK.cons (by kernel_rfl) (by kernel_rfl)
 (TabOK.cons (by kernel_rfl) (by kernel_rfl)
 (TabOK.cons (by kernel_rfl) (by kernel_rfl)
 (TabOK.cons (by kernel_rfl) (by kernel_rfl)
 (TabOK.cons (by kernel_rfl) (by kernel_rfl)
 (TabOK.cons (by kernel_rfl) (by kernel_rfl)
 (TabOK.cons (by kernel_rfl) (by kernel_rfl)
 (TabOK.cons (by kernel_rfl) (by kernel_rfl)
 (TabOK.cons (by kernel_rfl) (by kernel_rfl)
 (TabOK.cons (by kernel_rfl) (by kernel_rfl)
 (TabOK.cons (by kernel_rfl) (by kernel_rfl)
 (TabOK.cons (by kernel_rfl) (by kernel_rfl)
 (TabOK.cons (by kernel_rfl) (by kernel_rfl)
 (TabOK.cons (by kernel_rfl) (by kernel_rfl)
 (TabOK.cons (by kernel_rfl) (by kernel_rfl)
 (TabOK.cons (by kernel_rfl) (by kernel_rfl)
 (TabOK.cons (by kernel_rfl) (by kernel_rfl)
 (TabOK.cons (by kernel_rfl) (by kernel_rfl)
 (TabOK.cons (by kernel_rfl) (by kernel_rfl)
 (TabOK.cons (by kernel_rfl) (by kernel_rfl)
 (TabOK.cons (by kernel_rfl) (by kernel_rfl)
 (TabOK.cons (by kernel_rfl) (by kernel_rfl)
 (TabOK.cons (by kernel_rfl) (by kernel_rfl)
 (TabOK.cons (by kernel_rfl) (by kernel_rfl)
 (TabOK.nil _))))))))))))))))))))))))))))))))))))))))))))))))))))))))))))))))))))))
theorem mixed : Tryz.prog.follows .mixedOrders = true := by kernel_rfl
def look (t : List (Nat × List Nat)) (i : Nat) : List Nat :=
 match t with
 | [] => []
 | (j, l) :: r => bif Nat.beq j i then l else look r i
def lookF (t : List (Nat × List (List Nat))) (i : Nat) : List (List Nat) :=
 match t with
 | [] => []
 | (j, l) :: r => bif Nat.beq j i then l else lookF r i
def lookS (t : List (Nat × Sched)) (i : Nat) : Sched :=
 match t with
 | [] => .nil
 | (j, l) :: r => bif Nat.beq j i then l else lookS r i
def I_whittlerlaw18_CdepSwap : Info := ⟨look [(9, [8]), (8, [4, 9, 10, 11]), (7, [3, 4, 9]), (6, [8]), (5, [1, 2, 3, 4, 39]), (4, [8]), (3, [1, 2, 3, 4, 16]), (2, [8]), (1, [1, 2, 3, 4, 13]), (0, [1, 2, 3, 4])], lookS [(8, (.cons 0 true (.cons 1 true (.cons 3 false (.cons 4 false (.cons 2 true (.cons 5 true (.cons 6 true (.cons 7 true .nil))))))))), (9, (.cons 0 true (.cons 1 true (.cons 3 false (.cons 4 false (.cons 2 true (.cons 5 true (.cons 6 true (.cons 7 true (.cons 8 true (.cons 9 true (.cons 11 false (.cons 12 false (.cons 10 true (.cons 13 true (.cons 14 true (.cons 15 true (.cons 16 true (.cons 17 true (.cons 18 true (.cons 21 false (.cons 22 false (.cons 19 true (.cons 20 false (.cons 23 true (.cons 24 true (.cons 25 true (.cons 26 true (.cons 27 true .nil)))))))))))))))))))))))))))))], lookF [(0, [[4]]), (7, [[9]])]⟩
def I_whittlerref3_Fits : Info := ⟨look [(12, [2]), (4, [1, 3, 4]), (11, [1, 3, 4]), (9, [1, 3, 4, 5, 6]), (10, [1, 3, 4, 5, 6]), (8, [1, 3, 4, 5, 6, 44]), (7, [1, 3, 4, 5, 6]), (6, [1, 3, 4, 5]), (5, [1, 3, 4, 5]), (3, [1, 3, 4, 18]), (2, [1, 3, 4]), (1, [1, 3]), (0, [1])], lookS [(6, (.cons 4 true (.cons 5 true (.cons 6 true (.cons 0 false (.cons 1 false (.cons 2 false (.cons 3 false (.cons 7 true (.cons 8 true (.cons 9 true (.cons 10 true .nil))))))))))))], lookF [(0, [[1]]), (5, [[5]])]⟩
def I_check_May : Info := ⟨look [(1, [2]), (0, [1])], lookS [], lookF [(0, [[1]])]⟩
def I_tree_Count : Info := ⟨look [(7, [2]), (6, [3, 7, 8, 9]), (5, [3, 7, 8, 9]), (4, [3, 5, 7, 8, 9]), (3, [3, 7, 8, 9, 10]), (2, [3, 7, 8, 9]), (1, [1, 3]), (0, [1])], lookS [], lookF [(0, [[1]]), (4, [[5]])]⟩
def I_whittlerref6_ProcAt : Info := ⟨look [(3, [4]), (2, [4]), (1, [1, 2, 8]), (0, [1, 2])], lookS [(3, (.cons 2 true (.cons 3 true (.cons 4 true (.cons 5 true (.cons 0 false (.cons 1 false (.cons 6 true (.cons 7 true (.cons 8 true (.cons 9 true (.cons 10 true .nil))))))))))))], lookF [(0, [[2]])]⟩
def I_cfg_Of : Info := ⟨look [(4, [4]), (3, [4]), (2, [5, 10]), (1, [5]), (0, [1, 2])], lookS [], lookF [(0, [[2]])]⟩
def I_whittlerlaw18_deciding : Info := ⟨look [(3, [0]), (2, [1, 2]), (1, [1]), (0, [])], lookS [], lookF [(1, [[1]])]⟩
def I_whittlerlaw18_eqPairs : Info := ⟨look [(9, [4]), (8, [0, 1, 12, 13]), (7, [4]), (6, [0, 1, 12, 13, 24]), (5, [0, 1, 5, 12, 13]), (4, [0, 1, 12, 13, 14]), (3, [0, 1, 12, 13]), (2, [4]), (1, [0, 1, 10]), (0, [0, 1])], lookS [(6, (.cons 0 true (.cons 1 true (.cons 2 true (.cons 3 true (.cons 4 true (.cons 5 true (.cons 6 true (.cons 7 true (.cons 8 true .nil))))))))))], lookF []⟩
def I_cdep_Of : Info := ⟨look [(4, [4]), (3, [4]), (2, [5, 10]), (1, [5]), (0, [1, 2])], lookS [], lookF [(0, [[2]])]⟩
def I_cdep_By : Info := ⟨look [(8, [6]), (7, [2, 7, 12, 13, 14]), (6, [2, 7, 12, 13, 14]), (5, [2, 7, 9, 12, 13, 14, 21]), (4, [2, 7, 9, 12, 13, 14]), (3, [2, 7, 12, 13, 14, 15]), (2, [2, 7, 12, 13, 14]), (1, [1, 2, 3, 7]), (0, [1, 2, 3])], lookS [], lookF [(0, [[3]]), (4, [[9]])]⟩
def I_cdep_In : Info := ⟨look [(12, [4]), (11, [6]), (9, [5, 6, 7]), (10, [5, 6, 7]), (8, [5, 6, 7, 27]), (7, [5, 6, 7]), (6, [1, 5, 6]), (5, [4]), (4, [1, 5, 16]), (3, [1, 5]), (2, [4]), (1, [1, 2, 10]), (0, [1, 2])], lookS [], lookF [(0, [[2]])]⟩
def I_whittlerlaw18_small : Info := ⟨look [(1, [4]), (0, [1, 2])], lookS [], lookF [(0, [[2]])]⟩
def I_dom_Tree : Info := ⟨look [(10, [4]), (8, [5, 6, 7, 8]), (9, [5, 6, 7, 8]), (7, [5, 6, 7, 8, 22]), (6, [5, 6, 7, 8]), (5, [5, 6, 7]), (4, [5, 6]), (3, [4]), (2, [5, 13]), (1, [5]), (0, [1, 2])], lookS [], lookF [(0, [[2]])]⟩
def I_tree_MayExpr : Info := ⟨look [(1, [2]), (0, [1])], lookS [], lookF [(0, [[1]])]⟩
def I_whittlerref3_Swap : Info := ⟨look [(13, [6]), (12, [1, 2, 6, 7, 20, 21, 22]), (11, [1, 2, 6, 7, 20, 21, 22]), (10, [1, 2, 6, 7, 10, 20, 21, 22, 48, 49, 50]), (9, [1, 2, 6, 7, 10, 20, 21, 22, 48, 49, 50]), (8, [1, 2, 6, 7, 10, 12, 20, 21, 22, 48, 49, 50]), (7, [1, 2, 6, 7, 10, 20, 21, 22, 48, 49, 50, 51]), (6, [1, 2, 6, 7, 10, 20, 21, 22, 48, 49, 50]), (5, [1, 2, 6, 7, 9, 10, 20, 21, 22]), (4, [1, 2, 6, 7, 9, 20, 21, 22]), (3, [1, 2, 6, 7, 20, 21, 22, 23]), (2, [1, 2, 6, 7, 20, 21, 22]), (1, [1, 2, 3, 6, 7]), (0, [1, 2, 3, 6])], lookS [(5, (.cons 0 false (.cons 1 false (.cons 2 false (.cons 3 false (.cons 5 false (.cons 6 false (.cons 7 false (.cons 8 false (.cons 10 false (.cons 11 false (.cons 12 false (.cons 13 false (.cons 15 false (.cons 16 false (.cons 17 false (.cons 18 false (.fork 4 (.fork 9 (.fork 14 (.fork 19 (.cons 20 false (.cons 21 true (.cons 22 true .nil))) 21 (.cons 19 true (.cons 20 true (.cons 22 true .nil)))) 21 (.cons 14 true (.cons 19 true (.cons 20 true (.cons 22 true .nil))))) 21 (.cons 9 true (.cons 14 true (.cons 19 true (.cons 20 true (.cons 22 true .nil)))))) 21 (.cons 4 true (.cons 9 true (.cons 14 true (.cons 19 true (.cons 20 true (.cons 22 true .nil)))))))))))))))))))))))), (9, (.cons 4 true (.cons 5 true (.cons 6 true (.cons 7 true (.cons 0 false (.cons 2 false (.cons 3 false (.fork 1 (.cons 8 true (.cons 9 true (.cons 10 true (.cons 11 true (.cons 12 true (.cons 13 true .nil)))))) 8 (.cons 9 true (.fork 1 (.cons 10 true (.cons 11 true (.cons 12 true (.cons 13 true .nil)))) 10 (.cons 1 true (.cons 11 true (.cons 12 true (.cons 13 true .nil)))))))))))))))], lookF [(0, [[3]]), (4, [[9]]), (8, [[12]])]⟩
def I_whittlerref3_Some : Info := ⟨look [(3, [0]), (2, [0, 1, 2]), (1, [0, 1]), (0, [0])], lookS [], lookF [(1, [[1]]), (2, [[2]])]⟩
def I_whittlerref3_weighTexts : Info := ⟨look [(5, [4]), (3, [0, 1, 5]), (4, [0, 1, 5]), (2, [0, 1, 5, 13]), (1, [0, 1, 5]), (0, [0, 1])], lookS [], lookF []⟩
def I_whittlerref3_weighText : Info := ⟨look [(3, [4]), (2, [4]), (1, [0, 1, 13]), (0, [0, 1])], lookS [], lookF []⟩
def I_whittlerref3_weighStmts : Info := ⟨look [(11, [4]), (3, [0, 1, 5]), (10, [0, 1, 5]), (8, [0, 1, 5, 6, 7]), (9, [0, 1, 5, 6, 7]), (7, [0, 1, 5, 6, 7, 43]), (6, [0, 1, 5, 6, 7]), (5, [0, 1, 5, 6]), (4, [0, 1, 5, 6]), (2, [0, 1, 5, 15]), (1, [0, 1, 5]), (0, [0, 1])], lookS [(5, (.cons 6 true (.cons 7 true (.cons 8 true (.cons 0 false (.cons 1 false (.cons 2 false (.cons 3 false (.cons 4 false (.cons 5 false (.cons 9 true (.cons 10 true (.cons 11 true (.cons 12 true (.cons 13 true .nil))))))))))))))), (9, (.cons 6 true (.cons 7 true (.cons 8 true (.cons 9 true (.cons 10 true (.cons 11 true (.cons 12 true (.cons 0 false (.cons 1 false (.cons 2 false (.cons 3 false (.cons 4 false (.cons 5 false (.cons 13 true (.cons 14 true (.cons 15 true .nil))))))))))))))))), (10, (.cons 2 true (.cons 3 true (.cons 4 true (.cons 0 false (.cons 1 false (.cons 5 true (.cons 6 true (.cons 7 true .nil)))))))))], lookF [(4, [[6]])]⟩
def I_check_All : Info := ⟨look [(10, [2]), (9, [2, 3]), (8, [1, 2, 3, 22]), (7, [1, 2, 3]), (6, [1, 2, 3, 17]), (5, [1, 2, 3]), (4, [1, 2, 3, 12]), (3, [1, 2, 3]), (2, [2]), (1, [1, 2, 6]), (0, [1, 2])], lookS [], lookF [(0, [[1]])]⟩
def I_tree_count : Info := ⟨look [(7, [2]), (6, [0, 3, 8, 9]), (5, [0, 3, 8, 9]), (4, [0, 3, 4, 8, 9]), (3, [0, 3, 8, 9, 10]), (2, [0, 3, 8, 9]), (1, [0, 3]), (0, [0])], lookS [(5, (.cons 1 true (.cons 2 true (.cons 3 true (.cons 4 true (.cons 5 true (.cons 0 false (.cons 7 false (.cons 8 false (.cons 9 false (.cons 10 false (.cons 11 false (.cons 6 true (.cons 12 true (.cons 13 true (.cons 14 true (.cons 15 true .nil)))))))))))))))))], lookF []⟩
def I_whittlerref3_Mod : Info := ⟨look [(6, [4]), (5, [4]), (4, [0, 1, 11]), (3, [0, 1]), (2, [4]), (1, [0, 1, 6]), (0, [0, 1])], lookS [], lookF []⟩
def I_flat_New : Info := ⟨look [(9, [2]), (8, [3, 10, 11, 12]), (7, [3, 10, 11, 12]), (6, [3, 10, 11, 12]), (5, [3, 4, 5, 10, 11, 12]), (4, [3, 4, 5, 10, 11, 12]), (3, [3, 10, 11, 12, 13]), (2, [3, 10, 11, 12]), (1, [1, 3]), (0, [1])], lookS [(5, (.cons 5 true (.cons 6 true (.cons 7 true (.cons 8 true (.cons 9 true (.cons 10 true (.cons 0 false (.cons 1 false (.cons 2 false (.cons 3 false (.fork 4 (.cons 11 true (.cons 12 true (.cons 13 true (.cons 14 true (.cons 15 true .nil))))) 11 (.cons 4 true (.cons 12 true (.cons 13 true (.cons 14 true (.cons 15 true .nil))))))))))))))))), (7, (.cons 5 true (.cons 6 true (.cons 7 true (.cons 8 true (.cons 9 true (.cons 10 true (.cons 0 false (.cons 1 false (.cons 2 false (.cons 3 false (.fork 4 (.cons 11 true (.cons 12 true (.cons 13 true (.cons 14 true (.cons 15 true .nil))))) 11 (.cons 4 true (.cons 12 true (.cons 13 true (.cons 14 true (.cons 15 true .nil)))))))))))))))))], lookF [(0, [[1]]), (4, [[5]])]⟩
def I_flat_Sheet_Has : Info := ⟨look [(1, [4]), (0, [0, 1])], lookS [], lookF []⟩
def I_way_Of : Info := ⟨look [(6, [4]), (5, [4]), (4, [1, 5, 14]), (3, [1, 5]), (2, [4]), (1, [1, 2, 8]), (0, [1, 2])], lookS [], lookF [(0, [[2]])]⟩
def I_way_Way_Place : Info := ⟨look [(6, [4]), (3, [4]), (5, [4]), (4, [0, 1, 8]), (2, [0, 1, 5, 6]), (1, [0, 1, 5]), (0, [0, 1])], lookS [(6, (.cons 0 true (.cons 1 true (.cons 2 true (.cons 3 true (.cons 4 true (.cons 5 true (.cons 6 true (.cons 7 true (.cons 8 true (.cons 9 true (.cons 10 true (.cons 11 true (.cons 12 true (.cons 13 true (.cons 14 true (.cons 15 true (.cons 16 true .nil))))))))))))))))))], lookF []⟩
def I_slices_Contains_string_string_ : Info := ⟨look [(1, [4]), (0, [0, 1])], lookS [], lookF []⟩
def I_way_New : Info := ⟨look [(8, [4]), (7, [5, 46, 47, 48]), (6, [5, 46, 47, 48]), (5, [5, 7, 46, 47, 48]), (4, [5, 46, 47, 48, 49]), (3, [5, 46, 47, 48]), (2, [5]), (1, [5]), (0, [0, 1])], lookS [(1, (.cons 18 true (.cons 19 true (.cons 0 false (.cons 1 false (.cons 2 false (.cons 3 false (.cons 4 false (.cons 5 false (.cons 6 false (.cons 7 false (.cons 8 false (.cons 9 false (.cons 10 false (.cons 11 false (.cons 12 false (.cons 13 false (.cons 14 false (.cons 15 false (.cons 16 false (.cons 17 false (.cons 20 true (.cons 21 true (.cons 22 true (.cons 23 true .nil)))))))))))))))))))))))))], lookF []⟩
def I_way_Way_Traps : Info := ⟨look [(24, [2]), (23, [0, 3, 4, 7, 69, 70]), (22, [0, 3, 4, 7, 69, 70]), (21, [0, 3, 4, 7, 8, 9, 69, 70, 86, 87]), (20, [0, 3, 4, 7, 8, 9, 69, 70, 86, 87]), (19, [0, 3, 4, 7, 8, 9, 10, 69, 70, 86, 87, 95]), (18, [0, 3, 4, 7, 8, 9, 10, 69, 70, 86, 87]), (17, [0, 3, 4, 7, 8, 9, 69, 70, 86, 87, 88]), (16, [0, 3, 4, 7, 8, 9, 69, 70, 86, 87]), (15, [0, 3, 4, 7, 8, 9, 69, 70]), (14, [0, 3, 4, 7, 8, 69, 70, 84]), (13, [0, 3, 4, 7, 8, 69, 70]), (12, [0, 3, 4, 7, 69, 70, 71]), (11, [0, 3, 4, 7, 69, 70]), (10, [0, 3, 4, 7]), (9, [0, 3, 4, 43, 44, 45]), (8, [0, 3, 4, 43, 44, 45]), (7, [0, 3, 4, 6, 43, 44, 45, 59]), (6, [0, 3, 4, 6, 43, 44, 45]), (5, [0, 3, 4, 43, 44, 45, 46]), (4, [0, 3, 4, 43, 44, 45]), (3, [0, 3, 4]), (2, [0, 3, 4]), (1, [0, 3]), (0, [0])], lookS [(3, (.cons 0 true (.cons 1 true (.cons 2 true (.cons 3 true (.cons 5 true (.cons 6 true (.cons 7 true (.cons 8 true (.cons 9 true (.cons 10 true (.cons 11 true (.cons 12 true (.cons 13 true (.cons 4 false (.cons 14 true (.cons 15 true (.cons 16 true .nil)))))))))))))))))), (7, (.cons 0 true (.cons 1 true (.cons 2 true (.cons 3 true (.cons 4 true (.cons 5 true (.cons 6 true (.cons 7 true (.cons 8 true (.cons 9 true (.cons 10 true .nil))))))))))))], lookF [(6, [[6]])]⟩
def I_way_Way_Aug : Info := ⟨look [(13, [2]), (12, [3, 25, 26, 27]), (11, [3, 25, 26, 27]), (10, [3, 5, 25, 26, 27, 34]), (9, [3, 5, 25, 26, 27, 33, 34]), (8, [3, 5, 25, 26, 27, 33, 34]), (7, [3, 5, 25, 26, 27, 33, 34]), (6, [3, 5, 25, 26, 27, 33]), (5, [3, 5, 25, 26, 27]), (4, [3, 25, 26, 27, 28]), (3, [3, 25, 26, 27]), (2, [0, 3]), (1, [0, 3]), (0, [0])], lookS [(1, (.cons 0 true (.cons 2 false (.cons 3 false (.cons 4 false (.cons 5 false (.cons 1 true (.cons 6 true (.cons 7 true .nil))))))))), (3, (.cons 0 true (.cons 1 true (.cons 2 true (.cons 3 true (.cons 4 true (.cons 5 true (.cons 6 true (.cons 7 true (.cons 10 false (.cons 8 true (.cons 9 true .nil))))))))))))], lookF [(5, [[5]])]⟩
def I_way_Way_Decides : Info := ⟨look [(29, [2]), (28, [0, 4, 10, 85, 86]), (27, [0, 4, 10, 11, 85, 86, 93, 94]), (26, [0, 4, 10, 11, 85, 86, 93, 94]), (25, [0, 4, 10, 11, 12, 85, 86, 93, 94, 103]), (24, [0, 4, 10, 11, 12, 85, 86, 93, 94]), (23, [0, 4, 10, 11, 85, 86, 93, 94, 95]), (22, [0, 4, 10, 11, 85, 86, 93, 94]), (21, [0, 4, 10, 11, 85, 86]), (20, [0, 4, 10, 85, 86, 87]), (19, [0, 4, 10, 85, 86]), (18, [0, 4, 10]), (17, [0, 3, 4, 37, 38, 39]), (14, [0, 3, 4, 7, 8, 9, 37, 38, 39]), (16, [0, 3, 4, 7, 8, 9, 37, 38, 39]), (15, [0, 3, 4, 7, 8, 9, 37, 38, 39, 76]), (13, [0, 3, 4, 7, 8, 9, 37, 38, 39, 51]), (12, [0, 3, 4, 7, 8, 9, 37, 38, 39]), (11, [0, 3, 4, 7, 8, 37, 38, 39]), (10, [0, 3, 4, 7, 37, 38, 39]), (9, [0, 3, 4, 37, 38, 39, 40]), (8, [0, 3, 4, 37, 38, 39]), (7, [0, 3, 4, 21, 22]), (6, [0, 3, 4, 21, 22]), (5, [0, 3, 4, 5, 21, 22]), (4, [0, 3, 4, 21, 22, 23]), (3, [0, 3, 4, 21, 22]), (2, [0, 3, 4]), (1, [0, 3]), (0, [0])], lookS [], lookF [(10, [[7]])]⟩
def I_slices_Reverse_int_int_ : Info := ⟨look [(2, [0, 2, 3]), (3, [0, 2, 3]), (1, [0, 2, 3, 9]), (0, [0, 2, 3])], lookS [(3, (.cons 0 true (.cons 1 true (.cons 4 true (.cons 5 true (.cons 6 true (.cons 7 true (.cons 8 true (.cons 9 true (.cons 10 true (.cons 11 true (.cons 12 true (.cons 2 false (.cons 3 false (.cons 13 true (.cons 14 true (.cons 15 true .nil)))))))))))))))))], lookF []⟩
def I_flat_Sheet_Proc : Info := ⟨look [(1, [4]), (0, [0, 3])], lookS [], lookF [(0, [[3]])]⟩
def I_way_Way_Index : Info := ⟨look [(7, [4]), (2, [4]), (4, [4]), (6, [4]), (5, [0, 1, 16]), (3, [0, 1, 8]), (1, [0, 1, 5]), (0, [0, 1])], lookS [(5, (.cons 0 true (.cons 1 true (.cons 2 true (.cons 3 true (.cons 4 true (.cons 5 true (.cons 6 true (.cons 7 true (.cons 8 true (.cons 9 true (.cons 10 true (.cons 11 true (.cons 12 true (.cons 13 true (.cons 14 true (.cons 15 true (.cons 16 true (.cons 17 true (.cons 18 true (.cons 19 true (.cons 20 true (.cons 21 true (.cons 22 true (.cons 23 true (.cons 24 true (.cons 25 true (.cons 26 true (.cons 27 true (.cons 28 true (.cons 29 true (.cons 30 true (.cons 31 true (.cons 32 true .nil)))))))))))))))))))))))))))))))))), (6, (.cons 0 true (.cons 1 true (.cons 2 true (.cons 3 true (.cons 4 true (.cons 5 true (.cons 6 true (.cons 7 true (.cons 8 true (.cons 9 true (.cons 10 true (.cons 11 true (.cons 12 true (.cons 13 true (.cons 14 true (.cons 15 true (.cons 16 true .nil))))))))))))))))))], lookF []⟩
def I_way_Way_Row : Info := ⟨look [(16, [6]), (15, [0, 7, 45, 46, 47]), (14, [0, 7, 45, 46, 47]), (13, [0, 7, 11, 12, 45, 46, 47]), (12, [0, 7, 45, 46, 47, 48]), (11, [0, 7, 45, 46, 47]), (10, [0, 7]), (9, [0, 1, 7, 8, 21, 22, 23]), (8, [0, 1, 7, 8, 21, 22, 23]), (7, [0, 1, 7, 8, 9, 21, 22, 23]), (6, [0, 1, 7, 8, 9, 21, 22, 23, 28]), (5, [0, 1, 7, 8, 9, 10, 21, 22, 23]), (4, [0, 1, 7, 8, 21, 22, 23, 24]), (3, [0, 1, 7, 8, 21, 22, 23]), (2, [0, 1, 2, 7, 8]), (1, [0, 1, 2, 7]), (0, [0, 1, 2])], lookS [(8, (.cons 2 true (.cons 3 true (.cons 4 true (.cons 5 true (.cons 0 false (.cons 1 false (.cons 6 true (.cons 7 true (.cons 8 true .nil))))))))))], lookF [(2, [[8]])]⟩
def I_way_Way_Follow : Info := ⟨look [(28, [2]), (23, [0, 3, 6, 9, 10]), (27, [0, 3, 6, 9, 10]), (26, [0, 3, 6, 9, 10, 11, 111]), (25, [0, 3, 6, 9, 10, 11]), (24, [0, 3, 6, 9, 10, 11]), (22, [0, 3, 6, 9, 10, 93]), (21, [0, 3, 6, 9, 10]), (20, [0, 3, 6, 9]), (19, [0, 3, 6, 86]), (18, [0, 3, 6, 9]), (17, [0, 3, 6, 46, 47]), (16, [0, 3, 6, 7, 46, 47, 62, 63]), (15, [0, 3, 6, 7, 46, 47, 62, 63]), (14, [0, 3, 6, 7, 8, 46, 47, 62, 63]), (13, [0, 3, 6, 7, 46, 47, 62, 63, 64]), (12, [0, 3, 6, 7, 46, 47, 62, 63]), (11, [0, 3, 6, 7, 46, 47]), (10, [0, 3, 6, 7, 46, 47]), (9, [0, 3, 6, 46, 47, 48]), (8, [0, 3, 6, 46, 47]), (7, [0, 3, 6]), (6, [0, 3, 20, 21, 22]), (5, [0, 3, 20, 21, 22]), (4, [0, 3, 5, 20, 21, 22]), (3, [0, 3, 20, 21, 22, 23]), (2, [0, 3, 20, 21, 22]), (1, [0, 3]), (0, [0])], lookS [(5, (.cons 8 true (.cons 9 true (.cons 0 false (.cons 1 false (.cons 2 false (.cons 3 false (.cons 4 false (.cons 5 false (.cons 6 false (.cons 7 false (.cons 10 true (.cons 11 true (.cons 12 true (.cons 13 true .nil))))))))))))))), (15, (.cons 0 true (.cons 1 true (.cons 2 true (.cons 3 true (.cons 4 true (.cons 5 true (.cons 6 true (.cons 7 true (.cons 8 true (.cons 9 true (.cons 10 true (.cons 11 true (.cons 12 true (.cons 13 true (.cons 14 true (.cons 15 true (.cons 16 true (.cons 17 true (.cons 18 true .nil))))))))))))))))))))], lookF [(4, [[5]])]⟩
def I_tree_deep : Info := ⟨look [(16, [4]), (15, [1, 49, 50, 51]), (14, [4]), (13, [1, 49, 50, 51, 59]), (12, [1, 6, 49, 50, 51]), (11, [1, 49, 50, 51, 52]), (10, [1, 49, 50, 51]), (9, [4]), (8, [1, 2, 47]), (5, [4]), (7, [4]), (6, [1, 2, 30]), (4, [1, 2, 19, 20]), (3, [1, 2, 19]), (2, [4]), (1, [1, 2, 17]), (0, [1, 2])], lookS [(1, (.cons 0 true (.cons 1 true (.cons 2 true (.cons 6 true (.cons 7 true (.cons 3 false (.cons 4 false (.cons 5 false (.cons 8 true (.cons 9 true (.cons 10 true .nil))))))))))))], lookF [(0, [[2]]), (12, [[6]])]⟩
def I_whittlerref3_SwapTexts : Info := ⟨look [(7, [6]), (6, [1, 2, 7, 10, 11, 12]), (5, [1, 2, 7, 10, 11, 12]), (4, [1, 2, 7, 9, 10, 11, 12]), (3, [1, 2, 7, 10, 11, 12, 13]), (2, [1, 2, 7, 10, 11, 12]), (1, [0, 1, 2, 7]), (0, [0, 1, 2])], lookS [], lookF []⟩
def I_whittlerref3_other : Info := ⟨look [(6, [6]), (3, [6]), (5, [6]), (4, [0, 1, 12]), (2, [0, 1, 2, 7, 8]), (1, [0, 1, 2, 7]), (0, [0, 1, 2])], lookS [], lookF []⟩
def I_whittlerref3_SwapStmts : Info := ⟨look [(14, [6]), (13, [1, 2, 7, 13, 14, 15]), (12, [1, 2, 7, 13, 14, 15]), (11, [1, 2, 7, 10, 13, 14, 15]), (10, [1, 2, 7, 9, 10, 13, 14, 15, 47, 48, 49]), (9, [1, 2, 7, 9, 10, 13, 14, 15, 47, 48, 49]), (8, [1, 2, 7, 9, 10, 12, 13, 14, 15, 47, 48, 49]), (7, [1, 2, 7, 9, 10, 13, 14, 15, 47, 48, 49, 50]), (6, [1, 2, 7, 9, 10, 13, 14, 15, 47, 48, 49]), (5, [1, 2, 7, 9, 10, 13, 14, 15]), (4, [1, 2, 7, 9, 13, 14, 15]), (3, [1, 2, 7, 13, 14, 15, 16]), (2, [1, 2, 7, 13, 14, 15]), (1, [0, 1, 2, 7]), (0, [0, 1, 2])], lookS [(5, (.cons 0 false (.cons 1 false (.cons 2 false (.cons 3 false (.cons 4 false (.cons 5 false (.cons 6 false (.cons 7 false (.cons 9 false (.cons 10 false (.cons 11 false (.cons 12 false (.cons 14 false (.cons 15 false (.cons 16 false (.cons 17 false (.cons 19 false (.cons 20 false (.cons 21 false (.cons 22 false (.cons 24 false (.cons 25 false (.fork 8 (.fork 13 (.fork 18 (.fork 23 (.cons 26 false (.cons 27 true (.cons 28 true .nil))) 27 (.cons 23 true (.cons 26 true (.cons 28 true .nil)))) 27 (.cons 18 true (.cons 23 true (.cons 26 true (.cons 28 true .nil))))) 27 (.cons 13 true (.cons 18 true (.cons 23 true (.cons 26 true (.cons 28 true .nil)))))) 27 (.cons 8 true (.cons 13 true (.cons 18 true (.cons 23 true (.cons 26 true (.cons 28 true .nil)))))))))))))))))))))))))))))), (9, (.cons 4 true (.cons 5 true (.cons 6 true (.cons 7 true (.cons 0 false (.cons 2 false (.cons 3 false (.cons 9 false (.cons 10 false (.cons 11 false (.cons 12 false (.fork 1 (.cons 8 true (.cons 13 true (.cons 14 true (.cons 15 true (.cons 16 true (.cons 17 true (.cons 18 true .nil))))))) 8 (.fork 1 (.cons 13 true (.cons 14 true (.cons 15 true (.cons 16 true (.cons 17 true (.cons 18 true .nil)))))) 13 (.cons 14 true (.fork 1 (.cons 15 true (.cons 16 true (.cons 17 true (.cons 18 true .nil)))) 15 (.cons 1 true (.cons 16 true (.cons 17 true (.cons 18 true .nil)))))))))))))))))))), (11, (.cons 0 true (.cons 1 true (.cons 2 true (.cons 3 true (.cons 5 false (.cons 6 false (.cons 7 false (.cons 8 false (.cons 4 true (.cons 10 false (.cons 9 true (.cons 11 true (.cons 12 true (.cons 13 true .nil)))))))))))))))], lookF [(4, [[9]]), (8, [[12]])]⟩
def I_whittlerref3_num : Info := ⟨look [(1, [2]), (0, [0, 2])], lookS [], lookF []⟩
def I_whittlerref3_name : Info := ⟨look [(1, [2]), (0, [0, 2])], lookS [], lookF []⟩
def I_whittlerref3_two : Info := ⟨look [(1, [6]), (0, [0, 4, 5, 6])], lookS [], lookF [(0, [[4], [5]])]⟩
def I_flat_Sheet_First : Info := ⟨look [(3, [4]), (2, [4]), (1, [0, 1, 19]), (0, [0, 1])], lookS [(1, (.cons 0 true (.cons 1 true (.cons 2 true (.cons 3 true (.cons 4 true (.cons 5 true (.cons 6 true (.cons 7 true (.cons 8 true (.cons 9 true (.cons 10 true (.cons 11 true (.cons 12 true (.cons 13 true (.cons 14 true .nil))))))))))))))))], lookF []⟩
def I_whittlerref3_weighExpr : Info := ⟨look [(6, [4]), (4, [1, 2, 5]), (5, [1, 2, 5]), (3, [1, 2, 5, 18]), (2, [1, 2, 5]), (1, [1, 2]), (0, [1, 2])], lookS [], lookF [(0, [[2]])]⟩
def I_tree_May : Info := ⟨look [(18, [2]), (17, [3, 27, 28, 29]), (16, [2]), (15, [3, 27, 28, 29, 77]), (14, [3, 5, 27, 28, 29, 62, 63, 64]), (13, [2]), (12, [3, 5, 27, 28, 29, 62, 63, 64, 71]), (11, [3, 5, 7, 27, 28, 29, 62, 63, 64]), (10, [3, 5, 27, 28, 29, 62, 63, 64, 65]), (9, [3, 5, 27, 28, 29, 62, 63, 64]), (8, [2]), (7, [3, 5, 27, 28, 29, 60]), (6, [3, 5, 27, 28, 29]), (5, [3, 27, 28, 29, 30]), (4, [3, 27, 28, 29]), (3, [1, 3]), (2, [2]), (1, [1, 23]), (0, [1])], lookS [], lookF [(0, [[1]]), (6, [[5]]), (11, [[7]])]⟩
def I_scope_Check : Info := ⟨look [(26, [2]), (25, [1, 2, 3, 7, 57, 58, 59]), (24, [1, 2, 3, 7, 9, 57, 58, 59, 76, 77, 78]), (23, [2]), (22, [1, 2, 3, 7, 9, 12, 57, 58, 59, 76, 77, 78, 88]), (21, [1, 2, 3, 7, 9, 12, 57, 58, 59, 76, 77, 78]), (20, [1, 2, 3, 7, 9, 57, 58, 59, 76, 77, 78, 79]), (19, [1, 2, 3, 7, 9, 57, 58, 59, 76, 77, 78]), (18, [2]), (17, [1, 2, 3, 7, 8, 9, 57, 58, 59, 72]), (16, [1, 2, 3, 7, 8, 9, 10, 57, 58, 59]), (15, [1, 2, 3, 7, 8, 9, 57, 58, 59]), (14, [1, 2, 3, 7, 57, 58, 59, 60]), (13, [1, 2, 3, 7, 57, 58, 59]), (12, [1, 2, 3, 7]), (11, [2]), (10, [1, 2, 3, 52]), (9, [1, 2, 3, 6]), (8, [1, 2, 3, 18, 19, 20]), (7, [1, 2, 3, 18, 19, 20]), (6, [1, 2, 3, 5, 18, 19, 20]), (5, [1, 2, 3, 18, 19, 20, 21]), (4, [1, 2, 3, 18, 19, 20]), (3, [1, 2, 3]), (2, [2]), (1, [1, 2, 15]), (0, [1, 2])], lookS [], lookF [(0, [[1]]), (6, [[5]]), (15, [[9]]), (21, [[12]])]⟩
def I_arity_Check : Info := ⟨look [(9, [2]), (8, [1, 2, 14, 15, 16]), (7, [2]), (6, [1, 2, 4, 14, 15, 16, 30]), (5, [1, 2, 4, 14, 15, 16]), (4, [1, 2, 14, 15, 16, 17]), (3, [1, 2, 14, 15, 16]), (2, [2]), (1, [1, 2, 8]), (0, [1, 2])], lookS [], lookF [(0, [[1]]), (5, [[4]])]⟩
def I_jump_Check : Info := ⟨look [(20, [2]), (19, [2, 3, 16, 17, 18]), (18, [2]), (17, [2, 3, 16, 17, 18, 60]), (16, [2, 3, 7, 16, 17, 18]), (15, [2, 3, 5, 6, 16, 17, 18, 25, 26, 27]), (14, [2]), (13, [2, 3, 5, 6, 9, 16, 17, 18, 25, 26, 27, 46]), (12, [2, 3, 5, 6, 7, 9, 16, 17, 18, 25, 26, 27]), (11, [2, 3, 5, 6, 9, 16, 17, 18, 25, 26, 27]), (10, [2, 3, 5, 6, 16, 17, 18, 25, 26, 27, 28]), (9, [2, 3, 5, 6, 16, 17, 18, 25, 26, 27]), (8, [2, 3, 4, 5, 6, 16, 17, 18]), (7, [2, 3, 4, 5, 6, 16, 17, 18]), (6, [2, 3, 4, 5, 16, 17, 18]), (5, [2, 3, 16, 17, 18, 19]), (4, [2, 3, 16, 17, 18]), (3, [2]), (2, [1, 2, 3, 13]), (1, [1, 2, 3]), (0, [1, 2])], lookS [], lookF [(0, [[1]]), (6, [[5]]), (11, [[9]])]⟩
def I_alias_Check : Info := ⟨look [(15, [2]), (14, [2, 3, 33, 34, 35]), (13, [2]), (12, [2, 3, 7, 33, 34, 35, 53]), (11, [2, 3, 7, 33, 34, 35]), (10, [2, 3, 33, 34, 35, 36]), (9, [2, 3, 33, 34, 35]), (8, [1, 2, 3, 15, 16, 17]), (7, [1, 2, 3, 15, 16, 17]), (6, [1, 2, 3, 5, 15, 16, 17]), (5, [1, 2, 3, 15, 16, 17, 18]), (4, [1, 2, 3, 15, 16, 17]), (3, [1, 2, 3]), (2, [2]), (1, [1, 2, 11]), (0, [1, 2])], lookS [(7, (.cons 3 true (.cons 4 true (.cons 5 true (.cons 0 false (.cons 1 false (.cons 2 false (.cons 6 true (.cons 7 true .nil)))))))))], lookF [(0, [[1]]), (6, [[5]]), (11, [[7]])]⟩
def I_flat_Sheet_row : Info := ⟨look [(15, [0, 1, 5, 11, 12, 13]), (14, [0, 1, 5, 11, 12, 13]), (13, [0, 1, 5, 7, 10, 11, 12, 13]), (12, [0, 1, 5, 7, 10, 11, 12, 13]), (11, [0, 1, 5, 7, 8, 10, 11, 12, 13, 57]), (10, [0, 1, 5, 7, 8, 10, 11, 12, 13]), (9, [0, 1, 5, 7, 8, 9, 11, 12, 13]), (8, [0, 1, 5, 7, 8, 9, 11, 12, 13]), (7, [0, 1, 5, 7, 8, 9, 11, 12, 13, 31]), (6, [0, 1, 5, 6, 7, 8, 9, 11, 12, 13]), (5, [0, 1, 5, 6, 7, 8, 9, 11, 12, 13]), (4, [0, 1, 5, 6, 7, 8, 11, 12, 13]), (3, [0, 1, 5, 6, 7, 11, 12, 13]), (2, [0, 1, 5, 11, 12, 13, 14]), (1, [0, 1, 5, 11, 12, 13]), (0, [0, 1, 5])], lookS [(9, (.cons 5 true (.cons 0 false (.cons 1 false (.cons 2 false (.cons 3 false (.fork 4 (.cons 6 true (.cons 7 true (.cons 8 true (.cons 9 true (.cons 10 true .nil))))) 6 (.cons 4 true (.cons 7 true (.cons 8 true (.cons 9 true (.cons 10 true .nil))))))))))))], lookF [(0, [[5]]), (3, [[7]])]⟩
def I_slices_Index_string_string_ : Info := ⟨look [(7, [4]), (6, [0, 1, 7, 8]), (5, [4]), (4, [0, 1, 5, 7, 8, 16]), (3, [0, 1, 5, 7, 8]), (2, [0, 1, 7, 8, 9]), (1, [0, 1, 7, 8]), (0, [0, 1])], lookS [], lookF []⟩
def I_flat_Sheet_Steps : Info := ⟨look [(11, [4]), (10, [0, 5, 17, 18, 19]), (9, [0, 5, 7, 17, 18, 19, 25, 26, 27]), (8, [0, 5, 7, 17, 18, 19, 25, 26, 27]), (7, [0, 5, 7, 9, 17, 18, 19, 25, 26, 27]), (6, [0, 5, 7, 17, 18, 19, 25, 26, 27, 28]), (5, [0, 5, 7, 17, 18, 19, 25, 26, 27]), (4, [0, 5, 7, 17, 18, 19]), (3, [0, 5, 17, 18, 19, 20]), (2, [0, 5, 17, 18, 19]), (1, [0, 1, 5]), (0, [0, 1])], lookS [], lookF [(4, [[7]])]⟩
def I_way_Way_graph : Info := ⟨look [(1, [4]), (0, [0, 1])], lookS [(1, (.cons 4 true (.cons 5 true (.cons 0 false (.cons 1 false (.cons 2 false (.cons 3 false (.cons 6 true (.cons 7 true (.cons 8 true .nil))))))))))], lookF []⟩
def I_graph_Graph_Reach : Info := ⟨look [(13, [4]), (12, [5]), (11, [0, 5, 6, 17, 18, 19]), (10, [0, 5, 6, 17, 18, 19]), (9, [0, 5, 6, 8, 17, 18, 19]), (8, [0, 5, 6, 8, 17, 18, 19, 32]), (7, [0, 5, 6, 8, 17, 18, 19]), (6, [0, 5, 6, 17, 18, 19, 20]), (5, [0, 5, 6, 17, 18, 19]), (4, [0, 1, 5, 6]), (3, [0, 1, 5]), (2, [4]), (1, [0, 1, 10]), (0, [0, 1])], lookS [], lookF []⟩
def I_graph_Graph_Parts : Info := ⟨look [(18, [2]), (8, [0, 3, 4, 5, 6]), (17, [0, 3, 4, 5, 6, 8, 60, 61, 62]), (16, [0, 3, 4, 5, 6, 8, 60, 61, 62]), (15, [0, 3, 4, 5, 6, 8, 10, 60, 61, 62]), (14, [0, 3, 4, 5, 6, 8, 60, 61, 62, 63]), (13, [0, 3, 4, 5, 6, 8, 60, 61, 62]), (12, [0, 3, 4, 5, 6, 7, 8]), (11, [0, 3, 4, 5, 6, 7]), (10, [0, 3, 4, 5, 6]), (9, [0, 3, 4, 5, 6, 40]), (7, [0, 3, 4, 5, 6, 31]), (6, [0, 3, 4, 5, 6]), (5, [0, 3, 4, 5]), (4, [0, 3, 4]), (3, [0, 3]), (2, [2]), (1, [0, 12]), (0, [0])], lookS [(11, (.cons 5 true (.cons 6 true (.cons 7 true (.cons 8 true (.cons 0 false (.cons 1 false (.cons 2 false (.cons 3 false (.cons 4 false (.cons 9 true (.cons 10 true (.cons 11 true .nil)))))))))))))], lookF []⟩
def I_way_Way_Pairs : Info := ⟨look [(7, [4]), (6, [0, 5, 8, 9, 10]), (5, [0, 5, 8, 9, 10]), (4, [0, 5, 7, 8, 9, 10]), (3, [0, 5, 8, 9, 10, 11]), (2, [0, 5, 8, 9, 10]), (1, [0, 1, 5]), (0, [0, 1])], lookS [(5, (.cons 1 true (.cons 2 true (.cons 3 true (.cons 0 false (.cons 5 false (.cons 6 false (.cons 7 false (.cons 4 true (.cons 8 true (.cons 9 true (.cons 10 true (.cons 11 true (.cons 12 true .nil))))))))))))))], lookF [(4, [[7]])]⟩
def I_way_Way_virtual : Info := ⟨look [(12, [2]), (11, [0, 3, 9, 10, 11]), (10, [0, 3, 9, 10, 11, 15, 16, 17]), (9, [0, 3, 9, 10, 11, 15, 16, 17]), (8, [0, 3, 7, 9, 10, 11, 15, 16, 17, 34]), (7, [0, 3, 7, 9, 10, 11, 15, 16, 17]), (6, [0, 3, 9, 10, 11, 15, 16, 17, 18]), (5, [0, 3, 9, 10, 11, 15, 16, 17]), (4, [0, 3, 5, 9, 10, 11]), (3, [0, 3, 9, 10, 11, 12]), (2, [0, 3, 9, 10, 11]), (1, [0, 3]), (0, [0])], lookS [], lookF []⟩
def I_flat_Sheet_Of : Info := ⟨look [(1, [4]), (0, [0, 1])], lookS [(1, (.cons 0 true (.cons 1 true (.cons 2 true (.cons 3 true (.cons 4 true (.cons 5 true (.cons 6 true (.cons 7 true (.cons 8 true (.cons 9 true (.cons 10 true (.cons 11 true (.cons 12 true (.cons 13 true (.cons 14 true (.cons 15 true (.cons 16 true (.cons 17 true (.cons 18 true (.cons 19 true (.cons 20 true (.cons 21 true .nil)))))))))))))))))))))))], lookF []⟩
def I_flat_Sort : Info := ⟨look [(2, [2]), (1, [0]), (0, [0])], lookS [], lookF []⟩
def I_slices_IndexFunc_api_Proc_api_Proc_ : Info := ⟨look [(7, [4]), (6, [0, 1, 7, 8]), (5, [4]), (4, [0, 1, 5, 7, 8, 16]), (3, [0, 1, 5, 7, 8]), (2, [0, 1, 7, 8, 9]), (1, [0, 1, 7, 8]), (0, [0, 1])], lookS [], lookF []⟩
def I_flat_Sheet_Proc_1 : Info := ⟨look [(1, [3]), (0, [1, 2])], lookS [], lookF [(0, [[2]])]⟩
def I_way_size : Info := ⟨look [(8, [2]), (7, [3, 6, 7, 8]), (6, [3, 6, 7, 8]), (5, [3, 6, 7, 8, 12]), (4, [3, 5, 6, 7, 8]), (3, [3, 6, 7, 8, 9]), (2, [3, 6, 7, 8]), (1, [0, 3]), (0, [0])], lookS [], lookF []⟩
def I_slices_SortStableFunc_int_int_ : Info := ⟨look [(0, [])], lookS [], lookF []⟩
def I_way_Way_Row_1 : Info := ⟨look [(1, [5]), (0, [0, 1, 2])], lookS [(1, (.cons 0 true (.cons 1 true (.cons 2 true (.cons 3 true (.cons 4 true (.cons 5 true (.cons 6 true (.cons 7 true (.cons 8 true (.cons 9 true .nil)))))))))))], lookF []⟩
def I_way_shared : Info := ⟨look [(12, [4]), (11, [0, 1, 5, 13, 14]), (10, [0, 1, 5, 6, 13, 14, 20, 21, 22]), (9, [0, 1, 5, 6, 13, 14, 20, 21, 22]), (8, [0, 1, 5, 6, 8, 13, 14, 20, 21, 22]), (7, [0, 1, 5, 6, 13, 14, 20, 21, 22, 23]), (6, [0, 1, 5, 6, 13, 14, 20, 21, 22]), (5, [0, 1, 5, 6, 13, 14]), (4, [0, 1, 5, 6, 13, 14]), (3, [0, 1, 5, 13, 14, 15]), (2, [0, 1, 5, 13, 14]), (1, [0, 1, 5]), (0, [0, 1])], lookS [], lookF []⟩
def I_slices_Equal_bool_bool_ : Info := ⟨look [(9, [4]), (8, [0, 1, 12, 13]), (7, [4]), (6, [0, 1, 12, 13, 24]), (5, [0, 1, 5, 12, 13]), (4, [0, 1, 12, 13, 14]), (3, [0, 1, 12, 13]), (2, [4]), (1, [0, 1, 10]), (0, [0, 1])], lookS [(6, (.cons 0 true (.cons 1 true (.cons 2 true (.cons 3 true (.cons 4 true (.cons 5 true (.cons 6 true (.cons 7 true (.cons 8 true .nil))))))))))], lookF []⟩
def I_tree_kids : Info := ⟨look [(7, [2]), (2, [2]), (4, [2]), (6, [2]), (5, [17]), (3, [0, 10]), (1, [0, 3]), (0, [0])], lookS [], lookF []⟩
def I_lex_Name : Info := ⟨look [(3, [2]), (2, [2]), (1, [0, 16]), (0, [0])], lookS [], lookF []⟩
def I_whittlerref3_SwapExpr : Info := ⟨look [(7, [6]), (6, [1, 2, 3, 6, 7, 21, 22]), (5, [1, 2, 3, 6, 7, 21, 22]), (4, [1, 2, 3, 6, 7, 8, 21, 22]), (3, [1, 2, 3, 6, 7, 21, 22, 23]), (2, [1, 2, 3, 6, 7, 21, 22]), (1, [1, 2, 3, 6, 7]), (0, [1, 2, 3, 6])], lookS [(1, (.cons 0 false (.cons 1 false (.cons 2 false (.cons 3 false (.cons 4 false (.cons 5 false (.cons 6 false (.cons 7 false (.fork 8 (.cons 9 false (.cons 10 true (.cons 11 true .nil))) 10 (.cons 8 true (.cons 9 true (.cons 11 true .nil))))))))))))), (5, (.cons 2 true (.cons 3 true (.cons 4 true (.cons 5 true (.cons 6 true (.cons 7 true (.cons 8 true (.cons 0 false (.fork 1 (.cons 9 true (.cons 10 true (.cons 11 true (.cons 12 true (.cons 13 true .nil))))) 9 (.fork 1 (.cons 10 true (.cons 11 true (.cons 12 true (.cons 13 true .nil)))) 10 (.cons 1 true (.cons 11 true (.cons 12 true (.cons 13 true .nil)))))))))))))))], lookF [(0, [[3]])]⟩
def I_tree_names : Info := ⟨look [(7, [2]), (6, [5, 6, 7]), (5, [2]), (4, [5, 6, 7, 13]), (3, [4, 5, 6, 7]), (2, [5, 6, 7, 8]), (1, [5, 6, 7]), (0, [0])], lookS [], lookF []⟩
def I_tree_looker_rows : Info := ⟨look [(12, [6]), (11, [0, 2, 16, 17, 18]), (10, [6]), (9, [0, 2, 16, 17, 18, 69]), (8, [6]), (7, [0, 2, 8, 16, 17, 18, 53]), (6, [0, 2, 8, 16, 17, 18]), (5, [0, 2, 8, 16, 17, 18]), (4, [0, 2, 16, 17, 18, 19]), (3, [0, 2, 16, 17, 18]), (2, [6]), (1, [0, 1, 2, 15]), (0, [0, 1, 2])], lookS [(7, (.cons 0 true (.cons 1 true (.cons 2 true (.cons 3 true (.cons 4 true (.cons 5 true (.cons 6 true (.cons 7 true (.cons 8 true (.cons 9 true (.cons 10 true (.cons 11 true (.cons 12 true (.cons 13 true (.cons 14 true (.cons 15 true (.cons 16 true (.cons 17 true (.cons 18 true (.cons 19 true (.cons 20 true (.cons 21 true (.cons 22 true (.cons 23 true (.cons 24 true .nil))))))))))))))))))))))))))], lookF [(5, [[8]])]⟩
def I_scope_twice : Info := ⟨look [(7, [2]), (6, [0, 5, 6, 7]), (5, [2]), (4, [0, 5, 6, 7, 16]), (3, [0, 3, 4, 5, 6, 7]), (2, [0, 5, 6, 7, 8]), (1, [0, 5, 6, 7]), (0, [0])], lookS [], lookF []⟩
def I_scope_own : Info := ⟨look [(7, [2]), (6, [1, 3, 7, 8, 9]), (5, [1, 3, 7, 8, 9]), (4, [1, 3, 5, 7, 8, 9]), (3, [1, 3, 7, 8, 9, 10]), (2, [1, 3, 7, 8, 9]), (1, [1, 3]), (0, [1])], lookS [], lookF [(0, [[1]]), (4, [[5]])]⟩
def I_slices_ContainsFunc_string_string_ : Info := ⟨look [(1, [4]), (0, [0, 1])], lookS [], lookF []⟩
def I_scope_Check_1 : Info := ⟨look [(1, [3]), (0, [0, 1])], lookS [], lookF []⟩
def I_scope_known : Info := ⟨look [(7, [8]), (6, [2, 4, 5, 7, 12, 13, 14]), (5, [8]), (4, [2, 4, 5, 7, 12, 13, 14, 22]), (3, [2, 4, 5, 7, 10, 12, 13, 14]), (2, [2, 4, 5, 7, 12, 13, 14, 15]), (1, [2, 4, 5, 7, 12, 13, 14]), (0, [2, 4, 5, 7])], lookS [], lookF [(0, [[4], [5], [7]])]⟩
def I_arity_fits : Info := ⟨look [(9, [4]), (8, [3, 11, 12, 13]), (7, [4]), (6, [3, 6, 11, 12, 13, 21]), (5, [3, 6, 11, 12, 13]), (4, [3, 11, 12, 13, 14]), (3, [3, 11, 12, 13]), (2, [4]), (1, [2, 3, 9]), (0, [2, 3])], lookS [], lookF [(0, [[2], [3]]), (5, [[6]])]⟩
def I_jump_sheet : Info := ⟨look [(3, [2]), (2, [2]), (1, [1, 6]), (0, [1])], lookS [], lookF [(0, [[1]])]⟩
def I_jump_join : Info := ⟨look [(8, [4, 5]), (7, [0, 8, 9, 10]), (6, [0, 8, 9, 10]), (5, [4, 5]), (4, [0, 7, 8, 9, 10, 16]), (3, [0, 7, 8, 9, 10]), (2, [0, 8, 9, 10, 11]), (1, [0, 8, 9, 10]), (0, [0, 1])], lookS [], lookF []⟩
def I_jump_leads : Info := ⟨look [(8, [4]), (4, [4]), (7, [4]), (6, [6]), (5, [0, 3, 16]), (3, [0, 3, 9, 10]), (2, [0, 3, 9, 10]), (1, [0, 3, 9]), (0, [0, 3])], lookS [], lookF [(0, [[3]])]⟩
def I_touch_Globals : Info := ⟨look [(20, [4]), (19, [6]), (18, [2, 5, 6, 21, 22, 23]), (17, [2, 5, 6, 21, 22, 23, 31, 32, 33]), (16, [2, 5, 6, 21, 22, 23, 31, 32, 33, 39, 40, 41]), (15, [2, 5, 6, 21, 22, 23, 31, 32, 33, 39, 40, 41]), (14, [2, 5, 6, 12, 21, 22, 23, 31, 32, 33, 39, 40, 41, 48]), (13, [2, 5, 6, 12, 21, 22, 23, 31, 32, 33, 39, 40, 41]), (12, [2, 5, 6, 21, 22, 23, 31, 32, 33, 39, 40, 41, 42]), (11, [2, 5, 6, 21, 22, 23, 31, 32, 33, 39, 40, 41]), (10, [2, 5, 6, 10, 21, 22, 23, 31, 32, 33]), (9, [2, 5, 6, 21, 22, 23, 31, 32, 33, 34]), (8, [2, 5, 6, 21, 22, 23, 31, 32, 33]), (7, [2, 5, 6, 8, 21, 22, 23]), (6, [2, 5, 6, 21, 22, 23, 24]), (5, [2, 5, 6, 21, 22, 23]), (4, [1, 2, 5, 6]), (3, [1, 2, 5]), (2, [4]), (1, [1, 2, 16]), (0, [1, 2])], lookS [], lookF [(0, [[2]]), (10, [[10]])]⟩
def I_alias_single : Info := ⟨look [(10, [4]), (9, [1, 2, 5, 9, 10, 11]), (8, [1, 2, 5, 9, 10, 11]), (7, [4]), (6, [1, 2, 5, 7, 9, 10, 11, 34]), (5, [1, 2, 5, 7, 9, 10, 11, 17]), (4, [1, 2, 5, 7, 9, 10, 11]), (3, [1, 2, 5, 9, 10, 11, 12]), (2, [1, 2, 5, 9, 10, 11]), (1, [1, 2, 5]), (0, [1, 2])], lookS [], lookF [(0, [[2]]), (4, [[7]])]⟩
def I_flat_size : Info := ⟨look [(12, [2]), (11, [3, 21, 22, 23]), (10, [3, 21, 22, 23]), (9, [3, 7, 21, 22, 23]), (8, [3, 21, 22, 23, 24]), (7, [3, 21, 22, 23]), (6, [1, 3, 9, 10, 11]), (5, [1, 3, 9, 10, 11]), (4, [1, 3, 5, 9, 10, 11]), (3, [1, 3, 9, 10, 11, 12]), (2, [1, 3, 9, 10, 11]), (1, [1, 3]), (0, [1])], lookS [], lookF [(0, [[1]]), (4, [[5]]), (9, [[7]])]⟩
def I_flat_Sheet_goes : Info := ⟨look [(15, [4]), (3, [4]), (5, [4]), (7, [4]), (9, [4]), (11, [4]), (14, [4]), (13, [5]), (12, [0, 3, 58]), (10, [0, 3, 9, 55]), (8, [0, 3, 9, 50]), (6, [0, 3, 9, 37]), (4, [0, 3, 9, 25]), (2, [0, 3, 9, 10]), (1, [0, 3, 9]), (0, [0, 3])], lookS [(3, (.cons 0 true (.cons 1 true (.cons 2 true (.cons 3 true (.cons 4 true (.cons 6 false (.cons 7 false (.cons 8 false (.cons 9 false (.cons 10 false (.cons 5 true (.cons 11 true (.cons 12 true (.cons 13 true .nil))))))))))))))), (5, (.cons 0 true (.cons 1 true (.cons 2 true (.cons 3 true (.cons 4 true (.cons 5 true (.cons 7 false (.cons 8 false (.cons 6 true (.cons 9 true (.cons 10 true .nil)))))))))))), (7, (.cons 0 true (.cons 1 true (.cons 2 true (.cons 3 true (.cons 4 true (.cons 5 true (.cons 6 true (.cons 7 true (.cons 8 true (.cons 9 true (.cons 10 true (.cons 11 true .nil)))))))))))))], lookF [(0, [[3]])]⟩
def I_graph_New : Info := ⟨look [(9, [4]), (8, [5, 20, 21, 22]), (7, [5, 20, 21, 22]), (6, [5, 7, 20, 21, 22]), (5, [5, 20, 21, 22, 23]), (4, [5, 20, 21, 22]), (3, [1, 5]), (2, [4]), (1, [0, 1, 13]), (0, [0, 1])], lookS [(3, (.cons 0 false (.cons 2 false (.fork 1 (.cons 3 true (.cons 4 true (.cons 5 true (.cons 6 true .nil)))) 3 (.cons 1 true (.cons 4 true (.cons 5 true (.cons 6 true .nil))))))))], lookF [(3, [[19]]), (6, [[7]])]⟩
def I_graph_Graph_has : Info := ⟨look [(1, [4]), (0, [0, 1])], lookS [], lookF []⟩
def I_graph_walk : Info := ⟨look [(11, [6]), (3, [0, 1, 2, 7]), (10, [0, 1, 2, 7, 22, 23, 24]), (9, [0, 1, 2, 7, 22, 23, 24]), (8, [0, 1, 2, 7, 9, 22, 23, 24]), (7, [0, 1, 2, 7, 9, 22, 23, 24, 32]), (6, [0, 1, 2, 7, 9, 22, 23, 24]), (5, [0, 1, 2, 7, 22, 23, 24, 25]), (4, [0, 1, 2, 7, 22, 23, 24]), (2, [0, 1, 2, 7, 13]), (1, [0, 1, 2, 7]), (0, [0, 1, 2])], lookS [], lookF []⟩
def I_graph_listed : Info := ⟨look [(8, [2]), (7, [3, 6, 7, 8]), (6, [3, 6, 7, 8]), (5, [3, 4, 6, 7, 8, 13]), (4, [3, 4, 5, 6, 7, 8]), (3, [3, 6, 7, 8, 9]), (2, [3, 6, 7, 8]), (1, [0, 3]), (0, [0])], lookS [], lookF []⟩
def I_graph_Graph_ends : Info := ⟨look [(21, [2]), (20, [0, 3, 4, 5, 6, 26, 27]), (19, [0, 3, 4, 5, 6, 26, 27]), (18, [0, 3, 4, 5, 6, 9, 26, 27]), (17, [0, 3, 4, 5, 6, 9, 26, 27, 96]), (16, [0, 3, 4, 5, 6, 9, 26, 27]), (15, [0, 3, 4, 5, 6, 8, 9, 26, 27]), (14, [0, 3, 4, 5, 6, 26, 27]), (13, [0, 3, 4, 5, 6, 26, 27]), (12, [0, 3, 4, 5, 6, 8, 26, 27, 63]), (11, [0, 3, 4, 5, 6, 8, 26, 27]), (10, [0, 3, 4, 5, 6, 26, 27, 44]), (9, [0, 3, 4, 5, 6, 26, 27]), (8, [0, 3, 4, 5, 6, 7, 26, 27]), (7, [0, 3, 4, 5, 6, 7, 26, 27, 34]), (6, [0, 3, 4, 5, 6, 7, 26, 27]), (5, [0, 3, 4, 5, 6, 26, 27, 28]), (4, [0, 3, 4, 5, 6, 26, 27]), (3, [0, 3, 4, 5, 6]), (2, [0, 3, 4, 5]), (1, [0, 3, 4]), (0, [0])], lookS [(12, (.cons 0 true (.cons 1 true (.cons 2 true (.cons 3 true (.cons 4 true (.cons 5 true (.cons 6 true (.cons 7 true (.cons 8 true (.cons 9 true (.cons 10 true (.cons 11 true (.cons 12 true .nil)))))))))))))), (15, (.cons 0 true (.cons 1 true (.cons 2 true (.cons 3 true (.cons 4 true (.cons 5 true (.cons 6 true (.cons 7 true (.cons 8 true (.cons 9 true (.cons 10 true (.cons 11 true (.cons 12 true (.cons 13 true .nil)))))))))))))))], lookF []⟩
def I_slices_Min_int_int_ : Info := ⟨look [(8, [2]), (6, [0, 3, 4]), (7, [0, 3, 4]), (5, [0, 3, 4, 15]), (4, [0, 3, 4]), (3, [0, 3]), (2, [0]), (1, [0, 7]), (0, [0])], lookS [], lookF []⟩
def I_flat_Sort_1 : Info := ⟨look [(1, [4]), (0, [2, 3])], lookS [(1, (.cons 0 true (.cons 1 true (.cons 3 false (.cons 4 false (.cons 7 false (.cons 8 false (.cons 10 false (.cons 11 false (.cons 14 false (.cons 15 false (.cons 16 false (.cons 17 false (.cons 2 true (.cons 5 true (.cons 6 true (.cons 9 true (.cons 12 true (.cons 13 true (.cons 18 true (.cons 19 true (.cons 20 true (.cons 21 true .nil)))))))))))))))))))))))], lookF [(0, [[2], [3]])]⟩
def I_cmp_Or_int_ : Info := ⟨look [(8, [2]), (7, [3, 6, 7, 8]), (6, [2]), (5, [3, 5, 6, 7, 8, 14]), (4, [3, 5, 6, 7, 8]), (3, [3, 6, 7, 8, 9]), (2, [3, 6, 7, 8]), (1, [0, 3]), (0, [0])], lookS [], lookF []⟩
def I_cmp_Compare_int_ : Info := ⟨look [(13, [4]), (12, [4]), (11, [19]), (10, [4]), (9, [0, 1, 16]), (8, [4]), (7, [0, 1, 13]), (6, [4]), (5, [4]), (4, [12]), (3, [0, 1, 6, 11]), (2, [0, 1, 5, 6]), (1, [0, 1, 5]), (0, [0, 1])], lookS [], lookF []⟩
def I_flat_Rank : Info := ⟨look [(3, [2]), (2, [2]), (1, [0, 4]), (0, [0])], lookS [], lookF []⟩
def I_slices_CompactFunc_api_Step_api_Step_ : Info := ⟨look [(16, [4]), (5, [0, 1, 5]), (15, [4]), (14, [0, 5]), (10, [0, 1, 5, 6, 7]), (13, [0, 1, 5, 6, 7]), (12, [0, 1, 5, 6, 7]), (11, [0, 1, 5, 6, 7, 49]), (9, [0, 1, 5, 6, 7, 35]), (8, [0, 1, 5, 6, 7]), (7, [0, 1, 5, 6]), (6, [0, 1, 5, 28]), (4, [0, 1, 5, 15]), (3, [0, 1, 5]), (2, [4]), (1, [0, 1, 10]), (0, [0, 1])], lookS [(6, (.cons 0 true (.cons 1 true (.cons 2 true (.cons 3 true (.cons 4 true (.cons 5 true (.cons 6 true (.cons 7 true (.cons 8 true (.cons 9 true (.cons 10 true .nil)))))))))))), (11, (.cons 0 true (.cons 1 true (.cons 2 true (.cons 3 true (.cons 4 true (.cons 5 true (.cons 6 true (.cons 7 true (.cons 8 true (.cons 9 true (.cons 10 true (.cons 11 true .nil)))))))))))))], lookF []⟩
def I_flat_Sort_2 : Info := ⟨look [(1, [4]), (0, [2, 3])], lookS [], lookF [(0, [[2], [3]])]⟩
def I_tree_Names : Info := ⟨look [(3, [2]), (2, [2]), (1, [1, 5]), (0, [1])], lookS [], lookF [(0, [[1]])]⟩
def I_slices_stableCmpFunc_int_ : Info := ⟨look [(16, [0, 1, 2, 6]), (15, [0, 1, 2, 6]), (14, [0, 1, 2, 6, 7, 9, 54]), (13, [0, 1, 2, 6, 7, 9]), (12, [0, 1, 2, 6, 7, 8]), (11, [0, 1, 2, 6, 7, 8]), (10, [0, 1, 2, 6, 8]), (9, [0, 1, 2, 6, 7, 8, 35]), (8, [0, 1, 2, 6, 7, 8]), (7, [0, 1, 2, 6, 30]), (6, [0, 1, 2, 6]), (5, [0, 1, 2, 6, 7, 8]), (4, [0, 1, 2, 6, 7, 8]), (3, [0, 1, 2, 6, 8]), (2, [0, 1, 2, 6, 7, 8, 13]), (1, [0, 1, 2, 6, 7, 8]), (0, [0, 1, 2, 6])], lookS [], lookF []⟩
def I_lex_letter : Info := ⟨look [(1, [2]), (0, [0])], lookS [], lookF []⟩
def I_lex_run : Info := ⟨look [(3, [4]), (2, [0, 1]), (1, [0, 1, 20]), (0, [0, 1])], lookS [], lookF []⟩
def I_lex_Word : Info := ⟨look [(16, [2]), (15, [2]), (14, [4]), (13, [3, 4]), (12, [3, 4]), (11, [3, 4]), (10, [3, 4]), (9, [3, 4]), (8, [3, 4]), (7, [3, 4]), (6, [3, 4]), (5, [3, 4]), (4, [3, 4]), (3, [3, 4]), (2, [3, 4]), (1, [3]), (0, [0])], lookS [], lookF []⟩
def I_tree_fields : Info := ⟨look [(26, [2]), (25, [2]), (24, [1, 89]), (23, [2]), (22, [1, 3, 4, 5, 70]), (6, [1, 3, 4, 5, 6, 7, 8, 9]), (9, [1, 3, 4, 5, 6, 7, 8, 9]), (11, [1, 3, 4, 5, 6, 7, 8, 9]), (13, [1, 3, 4, 5, 6, 7, 8, 9]), (15, [1, 3, 4, 5, 6, 7, 8, 9]), (17, [1, 3, 4, 5, 6, 7, 8, 9]), (19, [1, 3, 4, 5, 6, 7, 8, 9]), (4, [2]), (21, [1, 3, 4, 5, 6, 7, 8, 9, 37]), (20, [1, 3, 4, 5, 6, 7, 8, 9, 16, 37]), (18, [1, 3, 4, 5, 6, 7, 8, 9, 16, 33]), (16, [1, 3, 4, 5, 6, 7, 8, 9, 16, 31]), (14, [1, 3, 4, 5, 6, 7, 8, 9, 16, 29]), (12, [1, 3, 4, 5, 6, 7, 8, 9, 16, 24]), (10, [1, 3, 4, 5, 6, 7, 8, 9, 16, 22]), (8, [1, 3, 4, 5, 6, 7, 8, 9, 16, 19]), (7, [1, 3, 4, 5, 6, 7, 8, 9, 16, 19]), (5, [1, 3, 4, 5, 6, 7, 8, 9, 16, 17]), (3, [1, 3, 4, 5, 6, 7, 8, 9, 16]), (2, [1, 3, 4, 5, 6, 7, 8, 9]), (1, [1, 3, 4, 5, 6, 7, 8]), (0, [1])], lookS [(1, (.cons 0 true (.cons 1 true (.cons 2 true (.cons 3 true (.cons 4 true (.cons 5 true (.cons 6 true (.cons 7 true .nil)))))))))], lookF [(0, [[1]])]⟩
def I_slices_IndexFunc_string_string_ : Info := ⟨look [(7, [4]), (6, [0, 1, 7, 8]), (5, [4]), (4, [0, 1, 5, 7, 8, 16]), (3, [0, 1, 5, 7, 8]), (2, [0, 1, 7, 8, 9]), (1, [0, 1, 7, 8]), (0, [0, 1])], lookS [], lookF []⟩
def I_flat_Names : Info := ⟨look [(12, [2]), (11, [3, 25, 26, 27]), (10, [3, 25, 26, 27]), (9, [3, 5, 25, 26, 27]), (8, [3, 5, 25, 26, 27, 32]), (7, [3, 5, 25, 26, 27]), (6, [3, 25, 26, 27, 28]), (5, [3, 25, 26, 27]), (4, [1, 3]), (3, [1, 3]), (2, [1, 3, 13]), (1, [1, 3]), (0, [1])], lookS [], lookF [(0, [[1]]), (7, [[5]])]⟩
def I_scope_kind : Info := ⟨look [(13, [6]), (12, [6]), (11, [36]), (10, [6]), (9, [2, 3, 32]), (8, [2, 3, 4, 10, 11, 12]), (7, [6]), (6, [2, 3, 4, 10, 11, 12, 27]), (5, [6]), (4, [2, 3, 4, 8, 10, 11, 12, 23]), (3, [2, 3, 4, 8, 10, 11, 12]), (2, [2, 3, 4, 10, 11, 12, 13]), (1, [2, 3, 4, 10, 11, 12]), (0, [2, 3, 4])], lookS [], lookF [(0, [[3], [4]]), (3, [[8]])]⟩
def I_arity_same : Info := ⟨look [(9, [4]), (8, [1, 12, 13, 14]), (7, [4]), (6, [1, 12, 13, 14, 26]), (5, [1, 5, 6, 12, 13, 14]), (4, [1, 12, 13, 14, 15]), (3, [1, 12, 13, 14]), (2, [4]), (1, [0, 1, 11]), (0, [0, 1])], lookS [(6, (.cons 0 true (.cons 1 true (.cons 2 true (.cons 3 true (.cons 4 true (.cons 5 true (.cons 6 true (.cons 7 true .nil)))))))))], lookF [(5, [[6]])]⟩
def I_flat_Sheet_At : Info := ⟨look [(9, [6, 7]), (8, [6, 7]), (7, [37]), (6, [0, 1, 2, 12, 13, 14]), (5, [6, 7]), (4, [0, 1, 2, 9, 12, 13, 14, 22]), (3, [0, 1, 2, 9, 12, 13, 14]), (2, [0, 1, 2, 12, 13, 14, 15]), (1, [0, 1, 2, 12, 13, 14]), (0, [0, 1, 2])], lookS [], lookF [(3, [[9]])]⟩
def I_touch_known : Info := ⟨look [(1, [4]), (0, [2, 3])], lookS [], lookF [(0, [[2], [3]])]⟩
def I_touch_all : Info := ⟨look [(12, [4]), (11, [5]), (4, [0, 5, 6]), (10, [0, 5, 6, 22, 23, 24]), (9, [0, 5, 6, 22, 23, 24]), (8, [0, 5, 6, 8, 22, 23, 24, 31]), (7, [0, 5, 6, 8, 22, 23, 24]), (6, [0, 5, 6, 22, 23, 24, 25]), (5, [0, 5, 6, 22, 23, 24]), (3, [0, 5, 6, 14]), (2, [0, 5, 6]), (1, [0, 5]), (0, [0, 1])], lookS [], lookF []⟩
def I_flat_head : Info := ⟨look [(3, [4]), (2, [4]), (1, [0, 1, 7]), (0, [0, 1])], lookS [], lookF []⟩
def I_graph_Graph_Add : Info := ⟨look [(9, [6]), (8, []), (7, [0, 1, 2, 7]), (6, [0, 1, 2]), (5, [6]), (4, [0, 1, 2, 7, 31]), (3, [0, 1, 2, 7, 8]), (2, [6]), (1, [0, 1, 2, 18]), (0, [0, 1, 2])], lookS [(6, (.cons 13 true (.cons 0 false (.cons 1 false (.cons 2 false (.cons 3 false (.cons 4 false (.cons 5 false (.cons 6 false (.cons 7 false (.cons 8 false (.cons 9 false (.cons 10 false (.cons 11 false (.cons 12 false (.cons 14 true (.cons 15 true (.cons 16 true (.cons 17 true .nil))))))))))))))))))), (8, (.cons 13 true (.cons 0 false (.cons 1 false (.cons 2 false (.cons 3 false (.cons 4 false (.cons 5 false (.cons 6 false (.cons 7 false (.cons 8 false (.cons 9 false (.cons 10 false (.cons 11 false (.cons 12 false (.cons 14 true (.cons 15 true (.cons 16 true (.cons 17 true .nil)))))))))))))))))))], lookF []⟩
def I_cmp_isNaN_int_ : Info := ⟨look [(1, [2]), (0, [0])], lookS [], lookF []⟩
def I_tree_gather : Info := ⟨look [(8, [4]), (7, [1, 23, 24, 25]), (6, [1, 23, 24, 25]), (5, [1, 6, 23, 24, 25]), (4, [1, 23, 24, 25, 26]), (3, [1, 23, 24, 25]), (2, [1, 2]), (1, [1, 2, 16]), (0, [1, 2])], lookS [], lookF [(0, [[2]]), (5, [[6]])]⟩
def I_slices_insertionSortCmpFunc_int_ : Info := ⟨look [(2, [0, 1, 2, 3, 8]), (5, [0, 1, 2, 3, 8, 9]), (6, [0, 1, 2, 3, 8, 9]), (4, [0, 1, 2, 3, 8, 9, 34]), (3, [0, 1, 2, 3, 8, 9]), (1, [0, 1, 2, 3, 8, 14]), (0, [0, 1, 2, 3, 8])], lookS [(4, (.cons 0 true (.cons 1 true (.cons 2 true (.cons 3 true (.cons 4 true (.cons 5 true (.cons 6 true (.cons 7 true (.cons 8 true (.cons 9 true (.cons 10 true (.cons 11 true (.cons 12 true (.cons 13 true (.cons 14 true (.cons 15 true (.cons 16 true .nil)))))))))))))))))), (6, (.cons 0 true (.cons 1 true (.cons 5 true (.cons 6 true (.cons 7 true (.cons 8 true (.cons 9 true (.cons 10 true (.cons 11 true (.cons 12 true (.cons 13 true (.cons 14 true (.cons 2 false (.cons 3 false (.cons 4 false (.cons 15 true (.cons 16 true (.cons 17 true .nil)))))))))))))))))))], lookF []⟩
def I_slices_symMergeCmpFunc_int_ : Info := ⟨look [(44, []), (43, [0, 3, 4, 18, 24, 213]), (42, [0, 3, 4, 18, 24]), (41, [0, 1, 3, 4, 18, 20, 24, 199]), (40, [0, 1, 3, 4, 18, 20, 24]), (39, [0, 1, 2, 3, 4, 18, 20, 24, 185]), (38, [0, 1, 2, 3, 4, 18, 20, 24]), (36, [0, 1, 2, 3, 4, 18, 19, 20, 21, 22]), (37, [0, 1, 2, 3, 4, 18, 19, 20, 21, 22]), (35, [0, 1, 2, 3, 4, 18, 19, 20, 21, 22, 23, 171]), (34, [0, 1, 2, 3, 4, 18, 19, 20, 21, 22, 23]), (33, [0, 1, 2, 3, 4, 18, 19, 20, 21, 22, 151]), (32, [0, 1, 2, 3, 4, 18, 19, 20, 21, 22]), (29, [0, 1, 2, 3, 4, 18, 19, 20, 21]), (28, [0, 1, 2, 3, 4, 18, 19, 20]), (31, [0, 1, 2, 3, 4, 18, 19, 20, 21]), (30, [0, 1, 2, 3, 4, 18, 19, 20]), (27, [0, 1, 2, 3, 4, 18, 19, 140]), (26, [0, 1, 2, 3, 4, 18, 19]), (25, [0, 1, 2, 3, 4, 18, 19]), (24, [0, 1, 2, 3, 4, 18]), (22, [0, 14, 17]), (23, [0, 14, 17]), (21, [0, 14, 17, 110]), (20, [0, 14, 17]), (18, [0, 2, 4, 14, 15]), (19, [0, 2, 4, 14, 15]), (17, [0, 2, 4, 14, 15, 16, 103]), (16, [0, 2, 4, 14, 15, 16]), (15, [0, 2, 4, 14, 15, 85]), (14, [0, 2, 4, 14, 15]), (13, [0, 2, 4, 14]), (12, [0, 1, 2, 3, 4, 80]), (10, [0, 10, 13]), (11, [0, 10, 13]), (9, [0, 10, 13, 58]), (8, [0, 10, 13]), (6, [0, 1, 4, 10, 11]), (7, [0, 1, 4, 10, 11]), (5, [0, 1, 4, 10, 11, 12, 50]), (4, [0, 1, 4, 10, 11, 12]), (3, [0, 1, 4, 10, 11, 33]), (2, [0, 1, 4, 10, 11]), (1, [0, 1, 3, 4, 10]), (0, [0, 1, 2, 3, 4, 28])], lookS [(5, (.cons 0 true (.cons 1 true (.cons 2 true (.cons 3 true (.cons 4 true (.cons 5 true (.cons 6 true (.cons 7 true (.cons 8 true (.cons 9 true (.cons 10 true .nil)))))))))))), (11, (.cons 0 true (.cons 1 true (.cons 5 true (.cons 6 true (.cons 7 true (.cons 8 true (.cons 9 true (.cons 10 true (.cons 11 true (.cons 12 true (.cons 13 true (.cons 14 true (.cons 2 false (.cons 3 false (.cons 4 false (.cons 15 true (.cons 16 true (.cons 17 true .nil))))))))))))))))))), (17, (.cons 0 true (.cons 1 true (.cons 2 true (.cons 3 true (.cons 4 true (.cons 5 true (.cons 6 true (.cons 7 true (.cons 8 true (.cons 9 true (.cons 10 true (.cons 11 true .nil))))))))))))), (23, (.cons 0 true (.cons 1 true (.cons 5 true (.cons 6 true (.cons 7 true (.cons 8 true (.cons 9 true (.cons 10 true (.cons 11 true (.cons 12 true (.cons 13 true (.cons 14 true (.cons 2 false (.cons 3 false (.cons 4 false (.cons 15 true (.cons 16 true (.cons 17 true .nil))))))))))))))))))), (35, (.cons 0 true (.cons 1 true (.cons 2 true (.cons 3 true (.cons 4 true (.cons 5 true (.cons 6 true (.cons 7 true (.cons 8 true (.cons 9 true (.cons 10 true (.cons 11 true (.cons 12 true (.cons 13 true .nil)))))))))))))))], lookF []⟩
def I_lex_digit : Info := ⟨look [(1, [2]), (0, [0])], lookS [], lookF []⟩
def I_tree_named : Info := ⟨look [(1, [4]), (0, [0, 1])], lookS [], lookF []⟩
def I_tree_worth : Info := ⟨look [(1, [4]), (0, [1, 2])], lookS [], lookF [(0, [[2]])]⟩
def I_tree_handed : Info := ⟨look [(7, [2]), (6, [5, 6, 7]), (5, [2]), (4, [5, 6, 7, 25]), (3, [4, 5, 6, 7]), (2, [5, 6, 7, 8]), (1, [5, 6, 7]), (0, [0])], lookS [], lookF [(3, [[4]])]⟩
def I_slices_ContainsFunc_api_Proc_api_Proc_ : Info := ⟨look [(1, [4]), (0, [0, 1])], lookS [], lookF []⟩
def I_touch_known_1 : Info := ⟨look [(1, [3]), (0, [1, 2])], lookS [], lookF [(0, [[2]])]⟩
def I_touch_calls : Info := ⟨look [(9, [4]), (8, [5]), (7, [5, 12, 13, 14]), (6, [5, 12, 13, 14]), (5, [5, 7, 12, 13, 14, 21]), (4, [5, 7, 12, 13, 14]), (3, [5, 12, 13, 14, 15]), (2, [5, 12, 13, 14]), (1, [0, 1, 5]), (0, [0, 1])], lookS [], lookF [(4, [[7]])]⟩
def I_slices_rotateCmpFunc_int_ : Info := ⟨look [(8, []), (5, [0, 2, 4, 10, 11]), (4, [0, 2, 4, 10, 11]), (7, [0, 2, 4, 10, 11]), (6, [0, 2, 4, 10, 11]), (3, [0, 2, 4, 10, 11, 23]), (2, [0, 2, 4, 10, 11, 20]), (1, [0, 2, 4, 10, 11]), (0, [0, 2, 3, 4, 10])], lookS [], lookF []⟩
def I_tree_none : Info := ⟨look [(1, [2]), (0, [1])], lookS [], lookF [(0, [[1]])]⟩
def I_slices_swapRangeCmpFunc_int_ : Info := ⟨look [(2, [0, 1, 2, 3, 10]), (3, [0, 1, 2, 3, 10]), (1, [0, 1, 2, 3, 10, 13]), (0, [0, 1, 2, 3, 10])], lookS [(3, (.cons 0 true (.cons 1 true (.cons 2 true (.cons 3 true (.cons 8 true (.cons 9 true (.cons 10 true (.cons 11 true (.cons 12 true (.cons 13 true (.cons 14 true (.cons 15 true (.cons 16 true (.cons 17 true (.cons 18 true (.cons 19 true (.cons 20 true (.cons 4 false (.cons 5 false (.cons 6 false (.cons 7 false (.cons 21 true (.cons 22 true (.cons 23 true .nil)))))))))))))))))))))))))], lookF []⟩
open Go.Proofs
abbrev Str := List UInt8
inductive X where
 | mk (op n : Int) (name : Str) (kids : List X)
namespace X
def op : X → Int | .mk a _ _ _ => a
def n : X → Int | .mk _ a _ _ => a
def name : X → Str | .mk _ _ a _ => a
def kids : X → List X | .mk _ _ _ a => a
end X
structure Arg where
 ref : Bool
 name : Str
 x : X
inductive S where
 | mk (id kind : Int) (labels : List Str) (name proc : Str) (x : X) (has : Bool) (args : List Arg) (thn els : List S)
namespace S
def id : S → Int | .mk a _ _ _ _ _ _ _ _ _ => a
def kind : S → Int | .mk _ a _ _ _ _ _ _ _ _ => a
def labels : S → List Str | .mk _ _ a _ _ _ _ _ _ _ => a
def name : S → Str | .mk _ _ _ a _ _ _ _ _ _ => a
def proc : S → Str | .mk _ _ _ _ a _ _ _ _ _ => a
def x : S → X | .mk _ _ _ _ _ a _ _ _ _ => a
def has : S → Bool | .mk _ _ _ _ _ _ a _ _ _ => a
def args : S → List Arg | .mk _ _ _ _ _ _ _ a _ _ => a
def thn : S → List S | .mk _ _ _ _ _ _ _ _ a _ => a
def els : S → List S | .mk _ _ _ _ _ _ _ _ _ a => a
end S
structure Param where
 name : Str
 ref : Bool
structure Pr where
 name : Str
 params : List Param
 vars : List Str
 body : List S
 fin : List Str
structure Pg where
 globals : List Str
 procs : List Pr
structure Step where
 src : Int
 dst : Int
 kind : Int
 deriving DecidableEq
def eStrs (l : List Str) : AV := .sl (l.map .str)
def eInts (l : List Int) : AV := .sl (l.map (.int .i64))
mutual
def X.av : X → AV
 | .mk op n name kids => .agg [.int .i64 op, .int .i64 n, .str name, .sl (X.avs kids)]
def X.avs : List X → List AV
 | [] => []
 | x :: r => X.av x :: X.avs r
end
def X.cells (x : X) : List AV := [.int .i64 x.op, .int .i64 x.n, .str x.name, .sl (X.avs x.kids)]
theorem X.av_eq (x : X) : x.av = .agg x.cells := by cases x; simp only [X.av, X.cells, X.op, X.n, X.name, X.kids]
theorem X.avs_eq : ∀ l : List X, X.avs l = l.map fun x => .agg x.cells
 | [] => by simp only [X.avs, List.map_nil]
 | x :: r => by simp only [X.avs, X.av_eq, X.avs_eq r, List.map_cons]
def Arg.cells (a : Arg) : List AV := .bool a.ref :: .str a.name :: a.x.cells
mutual
def S.av : S → AV
 | .mk id kind labels name proc x has args thn els => .agg (.int .i64 id :: .int .i64 kind :: eStrs labels :: .str name :: .str proc :: (x.cells ++ [.bool has, .sl (args.map fun a => .agg a.cells), .sl (S.avs thn), .sl (S.avs els)]))
def S.avs : List S → List AV
 | [] => []
 | x :: r => S.av x :: S.avs r
end
def S.cells (s : S) : List AV :=
 [.int .i64 s.id, .int .i64 s.kind, eStrs s.labels, .str s.name, .str s.proc, .int .i64 s.x.op, .int .i64 s.x.n, .str s.x.name, .sl (X.avs s.x.kids), .bool s.has, .sl (s.args.map fun a => .agg a.cells), .sl (S.avs s.thn), .sl (S.avs s.els)]
theorem S.av_eq (s : S) : s.av = .agg s.cells := by cases s; simp only [S.av, S.cells, X.cells, S.id, S.kind, S.labels, S.name, S.proc, S.x, S.has, S.args, S.thn, S.els, List.cons_append, List.nil_append]
theorem S.avs_eq : ∀ l : List S, S.avs l = l.map fun x => .agg x.cells
 | [] => by simp only [S.avs, List.map_nil]
 | x :: r => by simp only [S.avs, S.av_eq, S.avs_eq r, List.map_cons]
def eSs (l : List S) : AV := .sl (S.avs l)
def eArgs (l : List Arg) : AV := .sl (l.map fun a => .agg a.cells)
def Param.cells (a : Param) : List AV := [.str a.name, .bool a.ref]
def Pr.cells (f : Pr) : List AV := [.str f.name, .sl (f.params.map fun a => .agg a.cells), eStrs f.vars, eSs f.body, eStrs f.fin]
def Pg.cells (p : Pg) : List AV := [eStrs p.globals, .sl (p.procs.map fun f => .agg f.cells)]
def Step.cells (s : Step) : List AV := [.int .i64 s.src, .int .i64 s.dst, .int .i64 s.kind]
def eSteps (l : List Step) : AV := .sl (l.map fun s => .agg s.cells)
inductive Ok : AV → Prop
 | any : Ok .any
 | und : Ok .und
 | tt : Ok .tt
 | ff : Ok .ff
 | bool (b : Bool) : Ok (.bool b)
 | int (k : IntKind) (n : Int) : Ok (.int k n)
 | str {s : List UInt8} (h : s.length ≤ maxLen) : Ok (.str s)
 | nilp : Ok .nilp
 | nilf : Ok .nilf
 | nils : Ok .nils
 | raw (v : Value) : Ok (.raw v)
 | ip {cs : List AV} (h : ∀ c ∈ cs, Ok c) : Ok (.ip cs)
 | sl {es : List AV} (hl : es.length ≤ maxLen) (h : ∀ e ∈ es, ∀ c ∈ e.cells, Ok c) : Ok (.sl es)
 | agg {cs : List AV} (h : ∀ c ∈ cs, Ok c) : Ok (.agg cs)
 | tup {cs : List AV} (h : ∀ c ∈ cs, Ok c) : Ok (.tup cs)
 | fn {f : FuncId} {cs : List AV} (h : ∀ c ∈ cs, Ok c) : Ok (.fn f cs)
theorem Rep.Ok {σ : Mem} {c : AV} {v : Value} (h : Rep σ c v) : Ab.Ok c := by
 have key : ∀ {cs : List AV}, (∀ (j : Nat) (c : AV), cs[j]? = some c → Ab.Ok c) → ∀ c ∈ cs, Ab.Ok c := fun h c hc => by
  obtain ⟨j, hj⟩ := List.mem_iff_getElem?.1 hc
  exact h j c hj
 induction h with
 | any => exact .any
 | und => exact .und
 | tt => exact .tt
 | ff => exact .ff
 | bool b => exact .bool b
 | int k n => exact .int k n
 | str s h => exact .str h
 | nilp => exact .nilp
 | nilf => exact .nilf
 | nils => exact .nils
 | raw v => exact .raw v
 | ip cs b off cells u hb hc hr ih => exact .ip (key ih)
 | nilsl => exact .sl (Nat.zero_le _) (by simp)
 | slz b => exact .sl (Nat.zero_le _) (by simp)
 | sl es b off cap sz cells u hb hcap hmax hsz hc hr ih =>
   refine .sl (Nat.le_trans hcap hmax) fun e he c hc' => ?_
   obtain ⟨i, hi⟩ := List.mem_iff_getElem?.1 he
   obtain ⟨j, hj⟩ := List.mem_iff_getElem?.1 hc'
   exact ih i e j c hi hj
 | agg cs vs u hn hc hr ih => exact .agg (key ih)
 | tup cs vs u hn hc hr ih => exact .tup (key ih)
 | fn f cs vs u hn hc hr ih => exact .fn (key ih)
theorem Ok.len {es : List AV} (h : Ok (.sl es)) : es.length ≤ maxLen := by cases h with | sl h => exact h
theorem Ok.el {es : List AV} (h : Ok (.sl es)) {e : AV} (he : e ∈ es) : ∀ c ∈ e.cells, Ok c := by cases h with | sl _ h => exact h e he
open Go.Proofs Go.ChangeShapes
def memOf (w : World) : Mem := fun b => match w.heap[b]? with
 | some (.cells c _ _) => some c
 | _ => none
theorem memOf_lies (w : World) : (memOf w).lies w := by
 intro b c h
 unfold memOf at h
 split at h
 ·rename_i c' e fr hh
  cases h
  exact ⟨e, fr, hh⟩
 ·cases h
theorem memOf_cell {w : World} {a : Addr} {v : Value} (h : w.cell? a = some v) : a.spot = none ∧ ∃ cells, memOf w a.block = some cells ∧ cells[a.off]? = some v := by
 refine ⟨World.cell?_spot h, ?_⟩
 unfold World.cell? at h
 split at h
 ·rename_i c e fr hh
  split at h
  ·cases h
  ·exact ⟨c, by unfold memOf; rw [hh], h⟩
 ·cases h
def RepCs (σ : Mem) (avs : List AV) (cs : List Value) : Prop := cs.length = avs.length ∧ ∀ (j : Nat) (c : AV), avs[j]? = some c → ∃ u, cs[j]? = some u ∧ Rep σ c u
theorem RepCs.nil (σ : Mem) : RepCs σ [] [] := ⟨rfl, by simp⟩
theorem RepCs.one {σ : Mem} {a : AV} {v : Value} (h : Rep σ a v) : RepCs σ [a] [v] := ⟨rfl, fun j c hj => by
 cases j with
 | zero => cases hj; exact ⟨v, rfl, h⟩
 | succ j => simp at hj⟩
theorem RepCs.append {σ : Mem} {xs ys : List AV} {cs ds : List Value} (h : RepCs σ xs cs) (h' : RepCs σ ys ds) : RepCs σ (xs ++ ys) (cs ++ ds) := by
 refine ⟨by simp [h.1, h'.1], fun j c hj => ?_⟩
 rw [List.getElem?_append] at hj ⊢
 rw [h.1]
 split at hj
 ·rw [if_pos (by assumption)]; exact h.2 j c hj
 ·rw [if_neg (by assumption)]; exact h'.2 _ c hj
theorem RepCs.of_agg {σ : Mem} {avs : List AV} {vs : Array Value} (h : RepCs σ avs vs.toList) : Rep σ (.agg avs) (.agg vs) := by
 refine .agg avs vs (fun j => vs[j]?.getD undef) (by simpa using h.1) (fun j c hj => ?_) (fun j c hj => ?_)
 ·obtain ⟨u, h1, _⟩ := h.2 j c hj
  rw [Array.getElem?_toList] at h1
  simp [h1]
 ·obtain ⟨u, h1, h2⟩ := h.2 j c hj
  rw [Array.getElem?_toList] at h1
  simpa [h1] using h2
section
variable {H : Type} {enc : TypeId × Value → H} {P : Program} {w : World} {base : Nat} {spare : Nat → Bool} {held : Bool}
theorem trod_S {t : TypeId} {n : Nat} {cs : List Value} {x : DataW H × List MemPlace} (ht : P.underlying t = some .string) (h : DataW.trod enc P w base spare held n t cs = some x) : ∃ s : Str, RepCs (memOf w) [.str s] cs := by
 obtain ⟨s, rfl, _, h1⟩ := DataW.trod_string ht h
 exact ⟨s.data.toList, .one (Rep.str (σ := memOf w) s.data.toList (by simpa using h1))⟩
theorem trod_I {t : TypeId} {n : Nat} {cs : List Value} {x : DataW H × List MemPlace} (ht : P.underlying t = some (.int .i64)) (h : DataW.trod enc P w base spare held n t cs = some x) : ∃ i : Int, RepCs (memOf w) [.int .i64 i] cs := by
 obtain ⟨i, rfl, _⟩ := DataW.trod_int ht h
 exact ⟨i, .one (.int _ _)⟩
theorem trod_B {t : TypeId} {n : Nat} {cs : List Value} {x : DataW H × List MemPlace} (ht : P.underlying t = some .bool) (h : DataW.trod enc P w base spare held n t cs = some x) : ∃ b : Bool, RepCs (memOf w) [.bool b] cs := by
 obtain ⟨b, rfl, _⟩ := DataW.trod_bool ht h
 exact ⟨b, .one (.bool b)⟩
theorem RepCs.step {σ : Mem} {xs ys : List AV} {cs : List Value} {o k : Nat} (h : RepCs σ xs ((cs.drop o).take k)) (h' : RepCs σ ys (cs.drop (o + k))) : RepCs σ (xs ++ ys) (cs.drop o) := by
 have := h.append h'
 rwa [← List.drop_drop, List.take_append_drop] at this
theorem RepCs.fin {σ : Mem} {cs : List Value} {o : Nat} (h : cs.length = o) : RepCs σ [] (cs.drop o) := by
 rw [List.drop_eq_nil_of_le (by omega)]
 exact .nil σ
theorem trod_L {α : Type} [Inhabited α] (F : α → AV) (hspare : ∀ b, spare b = true) {t e : TypeId} {n : Nat} {cs : List Value} {x : DataW H × List MemPlace} (ht : P.underlying t = some (.slice e)) {sz : Nat} (hsz : P.cellsOf e = sz) (hF : ∀ a, (F a).cells.length = sz) (hpos : 0 < sz)
  (hd : ∀ m cs' y, m < n → DataW.trod enc P w base spare held m e cs' = some y → ∃ a, RepCs (memOf w) (F a).cells cs') (h : DataW.trod enc P w base spare held n t cs = some x) : ∃ l : List α, RepCs (memOf w) [.sl (l.map F)] cs := by
 rcases DataW.trod_slice ht h with ⟨rfl, _⟩ | ⟨a, len, cap, elems, rest, m, hn, rfl, _, hb, hl, hm, hlen, hel, hsp, _⟩
 ·exact ⟨[], .one .nilsl⟩
 subst hsz
 have key : ∀ i, i < len → ∃ A, ∀ (j : Nat) (c : AV), (F A).cells[j]? = some c → ∃ u, w.cell? (a.add (i * P.cellsOf e + j)) = some u ∧ Rep (memOf w) c u := by
  intro i hi
  have h1 := hel i hi
  rw [List.getElem?_eq_getElem (by omega)] at h1
  obtain ⟨cs', h2, h3⟩ := Option.bind_eq_some_iff.1 h1
  obtain ⟨A, h4, h5⟩ := hd m cs' _ (by omega) h3
  obtain ⟨_, h6, h7⟩ := World.cells?_some h2
  refine ⟨A, fun j c hj => ?_⟩
  obtain ⟨u, h8, h9⟩ := h5 j c hj
  have hj' : j < P.cellsOf e := by rw [← hF A]; exact (List.getElem?_eq_some_iff.1 hj).1
  have := h7 j hj'
  rw [Deep.add_add] at this
  exact ⟨u, this.trans h8, h9⟩
 have spot : ∀ k u, w.cell? (a.add k) = some u → (k = 0 → a.spot = none) ∧ ∃ cells, memOf w a.block = some cells ∧ cells[a.off + k]? = some u := fun k u hk => by
  have h1 := memOf_cell hk
  unfold Addr.add at h1
  split at h1
  ·rename_i h0
   subst h0
   exact ⟨fun _ => h1.1, h1.2⟩
  ·exact ⟨fun h => absurd h (by assumption), h1.2⟩
 obtain ⟨b, off, sp⟩ := a
 by_cases hcap : cap = 0
 ·subst hcap
  obtain rfl : len = 0 := by omega
  exact ⟨[], .one (.slz _)⟩
 have hmem : sp = none ∧ ∃ cells, memOf w b = some cells := by
  by_cases hc0 : len = 0
  ·subst hc0
   have h1 := (hsp (hspare _)).1
   have h2 := (hsp (hspare _)).2 0 (by omega)
   rw [List.getElem?_eq_getElem (by omega)] at h2
   obtain ⟨cs', h3, _⟩ := Option.bind_eq_some_iff.1 h2
   obtain ⟨_, h4, h5⟩ := World.cells?_some h3
   have h6 := h5 0 hpos
   rw [Deep.add_add, List.getElem?_eq_getElem (by omega)] at h6
   obtain ⟨h7, cells, h8, _⟩ := spot _ _ h6
   exact ⟨h7 (by omega), cells, h8⟩
  ·obtain ⟨A, hA⟩ := key 0 (by omega)
   have hj : 0 < (F A).cells.length := by rw [hF A]; exact hpos
   obtain ⟨u, h1, _⟩ := hA 0 _ (List.getElem?_eq_getElem hj)
   obtain ⟨h7, cells, h8, _⟩ := spot _ _ h1
   exact ⟨h7 (by omega), cells, h8⟩
 obtain ⟨rfl, cells, hcells⟩ := hmem
 obtain ⟨f, hf⟩ := Deep.choose_lt key
 refine ⟨(List.range len).map f, .one ?_⟩
 have hll : (((List.range len).map f).map F).length = len := by simp
 have hget : ∀ (i : Nat) (x : AV), (((List.range len).map f).map F)[i]? = some x → i < len ∧ x = F (f i) := fun i x hi => by
  have hlt : i < len := by rw [← hll]; exact (List.getElem?_eq_some_iff.1 hi).1
  simp [hlt] at hi
  exact ⟨hlt, hi.symm⟩
 have hcell : ∀ (i : Nat) (x : AV) (j : Nat) (c : AV), (((List.range len).map f).map F)[i]? = some x → x.cells[j]? = some c → ∃ u, cells[off + i * P.cellsOf e + j]? = some u ∧ Rep (memOf w) c u := fun i x j c hi hj => by
  obtain ⟨hlt, rfl⟩ := hget i x hi
  obtain ⟨u, h1, h2⟩ := hf i hlt j c hj
  obtain ⟨_, cells', h3, h4⟩ := spot _ _ h1
  rw [hcells] at h3
  cases h3
  exact ⟨u, by rw [Nat.add_assoc]; exact h4, h2⟩
 have := Rep.sl (σ := memOf w) (((List.range len).map f).map F) b off cap (P.cellsOf e) cells (fun i j => (cells[off + i * P.cellsOf e + j]?).getD undef) hcells (by rw [hll]; exact hl) hm (fun i x hi => by rw [(hget i x hi).2, hF])
  (fun i x j c hi hj => by
    obtain ⟨u, h1, _⟩ := hcell i x j c hi hj
    rw [h1]; rfl) (fun i x j c hi hj => by
    obtain ⟨u, h1, h2⟩ := hcell i x j c hi hj
    rw [h1]; exact h2)
 rw [hll] at this
 exact this
end
section
variable {H : Type} {enc : TypeId × Value → H} {w : World}
def fsOf (i : TyI) : Array Field := match i.desc with
 | .struct fs => fs
 | _ => #[]
instance : Inhabited X := ⟨.mk 0 0 [] []⟩
instance : Inhabited Arg := ⟨⟨false, [], default⟩⟩
instance : Inhabited S := ⟨.mk 0 0 [] [] [] default false [] [] []⟩
instance : Inhabited Param := ⟨⟨[], false⟩⟩
instance : Inhabited Pr := ⟨⟨[], [], [], [], []⟩⟩
noncomputable abbrev Rd (H : Type) (enc : TypeId × Value → H) (w : World) (n : Nat) (t : TypeId) (cs : List Value) : Option (DataW H × List MemPlace) := DataW.trod enc Tryz.prog w 0 (fun _ => true) true n t cs
theorem trod_Strs {n : Nat} {t : TypeId} {cs : List Value} {x : DataW H × List MemPlace} (ht : Tryz.prog.underlying t = some (.slice 9)) (h : Rd H enc w n t cs = some x) : ∃ l : List Str, RepCs (memOf w) [eStrs l] cs :=
 trod_L AV.str (fun _ => rfl) ht (by kernel_rfl) (fun _ => rfl) Nat.one_pos (fun m cs' y _ hy => trod_S (by kernel_rfl) hy) h
theorem trod_X : ∀ (n : Nat) (cs : List Value) (x : DataW H × List MemPlace), Rd H enc w n 55 cs = some x → ∃ e : X, RepCs (memOf w) e.cells cs := by
 intro n
 induction n using Nat.strongRecOn with
 | _ n ih =>
   intro cs x h
   obtain ⟨xs, m, rfl, _, hlen, hxl, hf⟩ := DataW.trod_struct (fs := fsOf ty55) (by kernel_rfl) h
   replace hlen : cs.length = 4 := hlen.trans (by kernel_rfl)
   have fld := fun (i : Nat) (f : Field) (hi : (fsOf ty55)[i]? = some f) => (hf i f hi).trans (List.getElem?_eq_getElem (by rw [hxl]; exact (Array.getElem?_eq_some_iff.1 hi).1))
   obtain ⟨op, h0⟩ := trod_I (by kernel_rfl) (fld 0 _ rfl)
   obtain ⟨nn, h1⟩ := trod_I (by kernel_rfl) (fld 1 _ rfl)
   obtain ⟨nm, h2⟩ := trod_S (by kernel_rfl) (fld 2 _ rfl)
   obtain ⟨ks, h3⟩ := trod_L (fun x : X => .agg x.cells) (fun _ => rfl) (e := 55) (sz := 4) (by kernel_rfl) (by kernel_rfl) (fun _ => rfl) (by decide) (fun m' cs' y hm hy => ih m' (by omega) cs' y hy) (fld 3 _ rfl)
   refine ⟨.mk op nn nm ks, ?_⟩
   have := RepCs.step (o := 0) (k := 1) h0 (RepCs.step (o := 1) (k := 1) h1 (RepCs.step (o := 2) (k := 1) h2 (RepCs.step (o := 3) (k := 1) h3 (RepCs.fin hlen))))
   unfold X.cells
   rw [X.avs_eq]
   exact this
theorem trod_Arg (n : Nat) (cs : List Value) (x : DataW H × List MemPlace) (h : Rd H enc w n 73 cs = some x) : ∃ e : Arg, RepCs (memOf w) e.cells cs := by
 obtain ⟨xs, m, rfl, _, hlen, hxl, hf⟩ := DataW.trod_struct (fs := fsOf ty73) (by kernel_rfl) h
 replace hlen : cs.length = 6 := hlen.trans (by kernel_rfl)
 have fld := fun (i : Nat) (f : Field) (hi : (fsOf ty73)[i]? = some f) => (hf i f hi).trans (List.getElem?_eq_getElem (by rw [hxl]; exact (Array.getElem?_eq_some_iff.1 hi).1))
 obtain ⟨rf, h0⟩ := trod_B (by kernel_rfl) (fld 0 _ rfl)
 obtain ⟨nm, h1⟩ := trod_S (by kernel_rfl) (fld 1 _ rfl)
 obtain ⟨e, h2⟩ := trod_X _ _ _ (fld 2 _ rfl)
 refine ⟨⟨rf, nm, e⟩, ?_⟩
 have := RepCs.step (o := 0) (k := 1) h0 (RepCs.step (o := 1) (k := 1) h1 (RepCs.step (o := 2) (k := 4) h2 (RepCs.fin hlen)))
 exact this
theorem trod_St : ∀ (n : Nat) (cs : List Value) (x : DataW H × List MemPlace), Rd H enc w n 59 cs = some x → ∃ e : S, RepCs (memOf w) e.cells cs := by
 intro n
 induction n using Nat.strongRecOn with
 | _ n ih =>
   intro cs x h
   obtain ⟨xs, m, rfl, _, hlen, hxl, hf⟩ := DataW.trod_struct (fs := fsOf ty59) (by kernel_rfl) h
   replace hlen : cs.length = 13 := hlen.trans (by kernel_rfl)
   have fld := fun (i : Nat) (f : Field) (hi : (fsOf ty59)[i]? = some f) => (hf i f hi).trans (List.getElem?_eq_getElem (by rw [hxl]; exact (Array.getElem?_eq_some_iff.1 hi).1))
   obtain ⟨id, h0⟩ := trod_I (by kernel_rfl) (fld 0 _ rfl)
   obtain ⟨kd, h1⟩ := trod_I (by kernel_rfl) (fld 1 _ rfl)
   obtain ⟨lb, h2⟩ := trod_Strs (by kernel_rfl) (fld 2 _ rfl)
   obtain ⟨nm, h3⟩ := trod_S (by kernel_rfl) (fld 3 _ rfl)
   obtain ⟨pc, h4⟩ := trod_S (by kernel_rfl) (fld 4 _ rfl)
   obtain ⟨e, h5⟩ := trod_X _ _ _ (fld 5 _ rfl)
   obtain ⟨hs, h6⟩ := trod_B (by kernel_rfl) (fld 6 _ rfl)
   obtain ⟨ar, h7⟩ := trod_L (fun x : Arg => .agg x.cells) (fun _ => rfl) (e := 73) (sz := 6) (by kernel_rfl) (by kernel_rfl) (fun _ => rfl) (by decide) (fun m' cs' y hm hy => trod_Arg m' cs' y hy) (fld 7 _ rfl)
   obtain ⟨th, h8⟩ := trod_L (fun x : S => .agg x.cells) (fun _ => rfl) (e := 59) (sz := 13) (by kernel_rfl) (by kernel_rfl) (fun _ => rfl) (by decide) (fun m' cs' y hm hy => ih m' (by omega) cs' y hy) (fld 8 _ rfl)
   obtain ⟨el, h9⟩ := trod_L (fun x : S => .agg x.cells) (fun _ => rfl) (e := 59) (sz := 13) (by kernel_rfl) (by kernel_rfl) (fun _ => rfl) (by decide) (fun m' cs' y hm hy => ih m' (by omega) cs' y hy) (fld 9 _ rfl)
   refine ⟨.mk id kd lb nm pc e hs ar th el, ?_⟩
   have := RepCs.step (o := 0) (k := 1) h0 (RepCs.step (o := 1) (k := 1) h1 (RepCs.step (o := 2) (k := 1) h2 (RepCs.step (o := 3) (k := 1) h3 (RepCs.step (o := 4) (k := 1) h4 (RepCs.step (o := 5) (k := 4) h5 (RepCs.step (o := 9) (k := 1) h6 (RepCs.step (o := 10) (k := 1) h7 (RepCs.step (o := 11) (k := 1) h8 (RepCs.step (o := 12) (k := 1) h9 (RepCs.fin hlen))))))))))
   unfold S.cells
   rw [S.avs_eq, S.avs_eq]
   exact this
theorem trod_Param (n : Nat) (cs : List Value) (x : DataW H × List MemPlace) (h : Rd H enc w n 71 cs = some x) : ∃ e : Param, RepCs (memOf w) e.cells cs := by
 obtain ⟨xs, m, rfl, _, hlen, hxl, hf⟩ := DataW.trod_struct (fs := fsOf ty71) (by kernel_rfl) h
 replace hlen : cs.length = 2 := hlen.trans (by kernel_rfl)
 have fld := fun (i : Nat) (f : Field) (hi : (fsOf ty71)[i]? = some f) => (hf i f hi).trans (List.getElem?_eq_getElem (by rw [hxl]; exact (Array.getElem?_eq_some_iff.1 hi).1))
 obtain ⟨nm, h0⟩ := trod_S (by kernel_rfl) (fld 0 _ rfl)
 obtain ⟨rf, h1⟩ := trod_B (by kernel_rfl) (fld 1 _ rfl)
 refine ⟨⟨nm, rf⟩, ?_⟩
 have := RepCs.step (o := 0) (k := 1) h0 (RepCs.step (o := 1) (k := 1) h1 (RepCs.fin hlen))
 exact this
theorem trod_Pr (n : Nat) (cs : List Value) (x : DataW H × List MemPlace) (h : Rd H enc w n 67 cs = some x) : ∃ e : Pr, RepCs (memOf w) e.cells cs := by
 obtain ⟨xs, m, rfl, _, hlen, hxl, hf⟩ := DataW.trod_struct (fs := fsOf ty67) (by kernel_rfl) h
 replace hlen : cs.length = 5 := hlen.trans (by kernel_rfl)
 have fld := fun (i : Nat) (f : Field) (hi : (fsOf ty67)[i]? = some f) => (hf i f hi).trans (List.getElem?_eq_getElem (by rw [hxl]; exact (Array.getElem?_eq_some_iff.1 hi).1))
 obtain ⟨nm, h0⟩ := trod_S (by kernel_rfl) (fld 0 _ rfl)
 obtain ⟨pm, h1⟩ := trod_L (fun x : Param => .agg x.cells) (fun _ => rfl) (e := 71) (sz := 2) (by kernel_rfl) (by kernel_rfl) (fun _ => rfl) (by decide) (fun m' cs' y hm hy => trod_Param m' cs' y hy) (fld 1 _ rfl)
 obtain ⟨vs, h2⟩ := trod_Strs (by kernel_rfl) (fld 2 _ rfl)
 obtain ⟨bd, h3⟩ := trod_L (fun x : S => .agg x.cells) (fun _ => rfl) (e := 59) (sz := 13) (by kernel_rfl) (by kernel_rfl) (fun _ => rfl) (by decide) (fun m' cs' y hm hy => trod_St m' cs' y hy) (fld 3 _ rfl)
 obtain ⟨fn, h4⟩ := trod_Strs (by kernel_rfl) (fld 4 _ rfl)
 refine ⟨⟨nm, pm, vs, bd, fn⟩, ?_⟩
 have := RepCs.step (o := 0) (k := 1) h0 (RepCs.step (o := 1) (k := 1) h1 (RepCs.step (o := 2) (k := 1) h2 (RepCs.step (o := 3) (k := 1) h3 (RepCs.step (o := 4) (k := 1) h4 (RepCs.fin hlen)))))
 unfold Pr.cells eSs
 rw [S.avs_eq]
 exact this
theorem trod_Pg (n : Nat) (cs : List Value) (x : DataW H × List MemPlace) (h : Rd H enc w n 25 cs = some x) : ∃ e : Pg, RepCs (memOf w) e.cells cs := by
 obtain ⟨xs, m, rfl, _, hlen, hxl, hf⟩ := DataW.trod_struct (fs := fsOf ty25) (by kernel_rfl) h
 replace hlen : cs.length = 2 := hlen.trans (by kernel_rfl)
 have fld := fun (i : Nat) (f : Field) (hi : (fsOf ty25)[i]? = some f) => (hf i f hi).trans (List.getElem?_eq_getElem (by rw [hxl]; exact (Array.getElem?_eq_some_iff.1 hi).1))
 obtain ⟨gl, h0⟩ := trod_Strs (by kernel_rfl) (fld 0 _ rfl)
 obtain ⟨ps, h1⟩ := trod_L (fun x : Pr => .agg x.cells) (fun _ => rfl) (e := 67) (sz := 5) (by kernel_rfl) (by kernel_rfl) (fun _ => rfl) (by decide) (fun m' cs' y hm hy => trod_Pr m' cs' y hy) (fld 1 _ rfl)
 refine ⟨⟨gl, ps⟩, ?_⟩
 have := RepCs.step (o := 0) (k := 1) h0 (RepCs.step (o := 1) (k := 1) h1 (RepCs.fin hlen))
 exact this

theorem open_Pg {v : Value} {base : Nat} {d : DataW H} {ps : List MemPlace} (hv : Value.okWide Tryz.prog w .any base 25 v) (h : DataW.Trod enc Tryz.prog w 0 (fun _ => true) true 25 v d ps) : ∃ p : Pg, Rep (memOf w) (.agg p.cells) v := by
 have hu : Tryz.prog.underlying 25 = some (.struct (fsOf ty25)) := by kernel_rfl
 unfold Value.okWide at hv
 rw [hu] at hv
 obtain ⟨cs, rfl, _, _⟩ := hv
 obtain ⟨n, hn⟩ := h
 obtain ⟨p, hp⟩ := trod_Pg n _ _ hn
 exact ⟨p, hp.of_agg⟩
end
end Go.Ab
