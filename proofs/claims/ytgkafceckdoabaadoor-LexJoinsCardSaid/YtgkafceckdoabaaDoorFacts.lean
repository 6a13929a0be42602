/-
  The facts on the types and the functions of this translation.
-/
import Derived.Test.YtgkafceckdoabaaDoorAbsSimp
import Derived.Test.YtgkafceckdoabaaDoorProg
import Derived.KernelRfl
set_option linter.all false
namespace Go.Proofs.YtgkafceckdoabaaDoor
open Go.Ab
/- int64 -/
@[go_sem] theorem tk2 : tyk Tryd.prog 2 = some ⟨.int .i64, 1, 8, .v (.int .i64 0)⟩ := by kernel_rfl
/- int -/
@[go_sem] theorem tk3 : tyk Tryd.prog 3 = some ⟨.int .i64, 1, 8, .v (.int .i64 0)⟩ := by kernel_rfl
/- bool -/
@[go_sem] theorem tk4 : tyk Tryd.prog 4 = some ⟨.bool, 1, 1, .v (.bool false)⟩ := by kernel_rfl
/- uint8 -/
@[go_sem] theorem tk5 : tyk Tryd.prog 5 = some ⟨.int .u8, 1, 1, .v (.int .u8 0)⟩ := by kernel_rfl
/- abi.BoundsErrorCode -/
@[go_sem] theorem tk6 : tyk Tryd.prog 6 = some ⟨.int .u8, 1, 1, .v (.int .u8 0)⟩ := by kernel_rfl

@[go_sem] theorem tk7 : tyk Tryd.prog 7 = some ⟨.struct [(0, 2), (1, 3), (2, 4), (3, 6)], 4, 24, .agg [.v (.int .i64 0), .v (.int .i64 0), .v (.bool false), .v (.int .u8 0)]⟩ := by kernel_rfl
/- runtime.boundsError -/
@[go_sem] theorem tk8 : tyk Tryd.prog 8 = some ⟨.struct [(0, 2), (1, 3), (2, 4), (3, 6)], 4, 24, .agg [.v (.int .i64 0), .v (.int .i64 0), .v (.bool false), .v (.int .u8 0)]⟩ := by kernel_rfl
/- string -/
@[go_sem] theorem tk9 : tyk Tryd.prog 9 = some ⟨.str, 1, 16, .v (.string ⟨#[]⟩)⟩ := by kernel_rfl
/- runtime.errorString -/
@[go_sem] theorem tk10 : tyk Tryd.prog 10 = some ⟨.str, 1, 16, .v (.string ⟨#[]⟩)⟩ := by kernel_rfl
/- runtime.plainError -/
@[go_sem] theorem tk11 : tyk Tryd.prog 11 = some ⟨.str, 1, 16, .v (.string ⟨#[]⟩)⟩ := by kernel_rfl
/- uintptr -/
@[go_sem] theorem tk12 : tyk Tryd.prog 12 = some ⟨.int .u64, 1, 8, .v (.int .u64 0)⟩ := by kernel_rfl
/- struct { msg string; addr uintptr } -/
@[go_sem] theorem tk13 : tyk Tryd.prog 13 = some ⟨.struct [(0, 9), (1, 12)], 2, 24, .agg [.v (.string ⟨#[]⟩), .v (.int .u64 0)]⟩ := by kernel_rfl
/- runtime.errorAddressString -/
@[go_sem] theorem tk14 : tyk Tryd.prog 14 = some ⟨.struct [(0, 9), (1, 12)], 2, 24, .agg [.v (.string ⟨#[]⟩), .v (.int .u64 0)]⟩ := by kernel_rfl
/- *runtime.TypeAssertionError -/
@[go_sem] theorem tk15 : tyk Tryd.prog 15 = some ⟨.ptr, 1, 8, .v (.pointer none)⟩ := by kernel_rfl
/- *runtime.PanicNilError -/
@[go_sem] theorem tk16 : tyk Tryd.prog 16 = some ⟨.ptr, 1, 8, .v (.pointer none)⟩ := by kernel_rfl
/- *abi.Type -/
@[go_sem] theorem tk17 : tyk Tryd.prog 17 = some ⟨.ptr, 1, 8, .v (.pointer none)⟩ := by kernel_rfl
/- struct { typ *abi.Type } -/
@[go_sem] theorem tk18 : tyk Tryd.prog 18 = some ⟨.struct [(0, 17)], 1, 8, .agg [.v (.pointer none)]⟩ := by kernel_rfl
/- maps.unhashableTypeError -/
@[go_sem] theorem tk19 : tyk Tryd.prog 19 = some ⟨.struct [(0, 17)], 1, 8, .agg [.v (.pointer none)]⟩ := by kernel_rfl
/- int32 -/
@[go_sem] theorem tk21 : tyk Tryd.prog 21 = some ⟨.int .i32, 1, 4, .v (.int .i32 0)⟩ := by kernel_rfl
/- []api.Token -/
@[go_sem] theorem tk22 : tyk Tryd.prog 22 = some ⟨.slice 25, 1, 24, .nil⟩ := by kernel_rfl
/- struct { Kind int; Text string; N int; Pos int } -/
@[go_sem] theorem tk24 : tyk Tryd.prog 24 = some ⟨.struct [(0, 3), (1, 9), (2, 3), (3, 3)], 4, 40, .agg [.v (.int .i64 0), .v (.string ⟨#[]⟩), .v (.int .i64 0), .v (.int .i64 0)]⟩ := by kernel_rfl
/- api.Token -/
@[go_sem] theorem tk25 : tyk Tryd.prog 25 = some ⟨.struct [(0, 3), (1, 9), (2, 3), (3, 3)], 4, 40, .agg [.v (.int .i64 0), .v (.string ⟨#[]⟩), .v (.int .i64 0), .v (.int .i64 0)]⟩ := by kernel_rfl
@[go_sem] theorem bk25 : bldOK Tryd.prog 25 = true := by kernel_rfl
@[go_sem] theorem ek25 : eqOK Tryd.prog 25 = true := by kernel_rfl
/- api.Errno -/
@[go_sem] theorem tk27 : tyk Tryd.prog 27 = some ⟨.int .i64, 1, 8, .v (.int .i64 0)⟩ := by kernel_rfl
/- []string -/
@[go_sem] theorem tk42 : tyk Tryd.prog 42 = some ⟨.slice 9, 1, 24, .nil⟩ := by kernel_rfl
/- [11]string -/
@[go_sem] theorem tk44 : tyk Tryd.prog 44 = some ⟨.arr 11 9, 11, 176, .agg [.v (.string ⟨#[]⟩), .v (.string ⟨#[]⟩), .v (.string ⟨#[]⟩), .v (.string ⟨#[]⟩), .v (.string ⟨#[]⟩), .v (.string ⟨#[]⟩), .v (.string ⟨#[]⟩), .v (.string ⟨#[]⟩), .v (.string ⟨#[]⟩), .v (.string ⟨#[]⟩), .v (.string ⟨#[]⟩)]⟩ := by kernel_rfl
/- *strings.Builder -/
@[go_sem] theorem tk47 : tyk Tryd.prog 47 = some ⟨.ptr, 1, 8, .v (.pointer none)⟩ := by kernel_rfl
/- []uint8 -/
@[go_sem] theorem tk48 : tyk Tryd.prog 48 = some ⟨.slice 5, 1, 24, .nil⟩ := by kernel_rfl
/- struct { addr *strings.Builder; buf []uint8 } -/
@[go_sem] theorem tk49 : tyk Tryd.prog 49 = some ⟨.struct [(0, 47), (1, 48)], 2, 32, .agg [.v (.pointer none), .nil]⟩ := by kernel_rfl
/- strings.Builder -/
@[go_sem] theorem tk50 : tyk Tryd.prog 50 = some ⟨.struct [(0, 47), (1, 48)], 2, 32, .agg [.v (.pointer none), .nil]⟩ := by kernel_rfl
@[go_sem] theorem bk50 : bldOK Tryd.prog 50 = true := by kernel_rfl
@[go_sem] theorem ek50 : eqOK Tryd.prog 50 = true := by kernel_rfl
/- *uint8 -/
@[go_sem] theorem tk57 : tyk Tryd.prog 57 = some ⟨.ptr, 1, 8, .v (.pointer none)⟩ := by kernel_rfl

@[go_sem] theorem tk61 : tyk Tryd.prog 61 = some ⟨.struct [(0, 17), (1, 17), (2, 17), (3, 9)], 4, 40, .agg [.v (.pointer none), .v (.pointer none), .v (.pointer none), .v (.string ⟨#[]⟩)]⟩ := by kernel_rfl
/- runtime.TypeAssertionError -/
@[go_sem] theorem tk62 : tyk Tryd.prog 62 = some ⟨.struct [(0, 17), (1, 17), (2, 17), (3, 9)], 4, 40, .agg [.v (.pointer none), .v (.pointer none), .v (.pointer none), .v (.string ⟨#[]⟩)]⟩ := by kernel_rfl
/- [0]*runtime.PanicNilError -/
@[go_sem] theorem tk63 : tyk Tryd.prog 63 = some ⟨.arr 0 16, 0, 0, .agg []⟩ := by kernel_rfl
/- struct { _ [0]*runtime.PanicNilError } -/
@[go_sem] theorem tk64 : tyk Tryd.prog 64 = some ⟨.struct [(0, 63)], 0, 0, .agg []⟩ := by kernel_rfl
/- runtime.PanicNilError -/
@[go_sem] theorem tk65 : tyk Tryd.prog 65 = some ⟨.struct [(0, 63)], 0, 0, .agg []⟩ := by kernel_rfl
/- uint32 -/
@[go_sem] theorem tk67 : tyk Tryd.prog 67 = some ⟨.int .u32, 1, 4, .v (.int .u32 0)⟩ := by kernel_rfl
/- abi.TFlag -/
@[go_sem] theorem tk68 : tyk Tryd.prog 68 = some ⟨.int .u8, 1, 1, .v (.int .u8 0)⟩ := by kernel_rfl
/- abi.Kind -/
@[go_sem] theorem tk69 : tyk Tryd.prog 69 = some ⟨.int .u8, 1, 1, .v (.int .u8 0)⟩ := by kernel_rfl
/- abi.NameOff -/
@[go_sem] theorem tk71 : tyk Tryd.prog 71 = some ⟨.int .i32, 1, 4, .v (.int .i32 0)⟩ := by kernel_rfl
/- abi.TypeOff -/
@[go_sem] theorem tk72 : tyk Tryd.prog 72 = some ⟨.int .i32, 1, 4, .v (.int .i32 0)⟩ := by kernel_rfl

@[go_sem] theorem tk73 : tyk Tryd.prog 73 = some ⟨.struct [(0, 12), (1, 12), (2, 67), (3, 68), (4, 5), (5, 5), (6, 69), (7, 70), (8, 57), (9, 71), (10, 72)], 11, 48, .agg [.v (.int .u64 0), .v (.int .u64 0), .v (.int .u32 0), .v (.int .u8 0), .v (.int .u8 0), .v (.int .u8 0), .v (.int .u8 0), .v .nilFunc, .v (.pointer none), .v (.int .i32 0), .v (.int .i32 0)]⟩ := by kernel_rfl
/- abi.Type -/
@[go_sem] theorem tk74 : tyk Tryd.prog 74 = some ⟨.struct [(0, 12), (1, 12), (2, 67), (3, 68), (4, 5), (5, 5), (6, 69), (7, 70), (8, 57), (9, 71), (10, 72)], 11, 48, .agg [.v (.int .u64 0), .v (.int .u64 0), .v (.int .u32 0), .v (.int .u8 0), .v (.int .u8 0), .v (.int .u8 0), .v (.int .u8 0), .v .nilFunc, .v (.pointer none), .v (.int .i32 0), .v (.int .i32 0)]⟩ := by kernel_rfl
@[go_sem] theorem cl3 : callable Tryd.prog 3 = true := by kernel_rfl
@[go_sem] theorem cl4 : callable Tryd.prog 4 = true := by kernel_rfl
@[go_sem] theorem cl5 : callable Tryd.prog 5 = true := by kernel_rfl
@[go_sem] theorem cl6 : callable Tryd.prog 6 = true := by kernel_rfl
@[go_sem] theorem cl7 : callable Tryd.prog 7 = true := by kernel_rfl
@[go_sem] theorem cl8 : callable Tryd.prog 8 = true := by kernel_rfl
@[go_sem] theorem cl9 : callable Tryd.prog 9 = true := by kernel_rfl
@[go_sem] theorem cl10 : callable Tryd.prog 10 = true := by kernel_rfl
@[go_sem] theorem cl11 : callable Tryd.prog 11 = true := by kernel_rfl
@[go_sem] theorem cl12 : callable Tryd.prog 12 = true := by kernel_rfl
@[go_sem] theorem cl13 : callable Tryd.prog 13 = true := by kernel_rfl
@[go_sem] theorem cl14 : callable Tryd.prog 14 = true := by kernel_rfl
@[go_sem] theorem cl15 : callable Tryd.prog 15 = true := by kernel_rfl
@[go_sem] theorem cl16 : callable Tryd.prog 16 = true := by kernel_rfl
@[go_sem] theorem cl17 : callable Tryd.prog 17 = true := by kernel_rfl
@[go_sem] theorem cl18 : callable Tryd.prog 18 = true := by kernel_rfl
@[go_sem] theorem cl19 : callable Tryd.prog 19 = true := by kernel_rfl
@[go_sem] theorem cl20 : callable Tryd.prog 20 = true := by kernel_rfl
@[go_sem] theorem cl21 : callable Tryd.prog 21 = true := by kernel_rfl
@[go_sem] theorem cl22 : callable Tryd.prog 22 = true := by kernel_rfl
@[go_sem] theorem cl23 : callable Tryd.prog 23 = true := by kernel_rfl
@[go_sem] theorem cl24 : callable Tryd.prog 24 = true := by kernel_rfl
@[go_sem] theorem cl25 : callable Tryd.prog 25 = true := by kernel_rfl
@[go_sem] theorem cl26 : callable Tryd.prog 26 = true := by kernel_rfl
@[go_sem] theorem cl27 : callable Tryd.prog 27 = true := by kernel_rfl
@[go_sem] theorem cl28 : callable Tryd.prog 28 = true := by kernel_rfl
@[go_sem] theorem cl29 : callable Tryd.prog 29 = true := by kernel_rfl
@[go_sem] theorem cl30 : callable Tryd.prog 30 = true := by kernel_rfl
@[go_sem] theorem cl31 : callable Tryd.prog 31 = true := by kernel_rfl
@[go_sem] theorem cl32 : callable Tryd.prog 32 = true := by kernel_rfl
@[go_sem] theorem cl33 : callable Tryd.prog 33 = true := by kernel_rfl
@[go_sem] theorem cl34 : callable Tryd.prog 34 = true := by kernel_rfl
@[go_sem] theorem cl35 : callable Tryd.prog 35 = true := by kernel_rfl
@[go_sem] theorem cl36 : callable Tryd.prog 36 = true := by kernel_rfl
@[go_sem] theorem cl37 : callable Tryd.prog 37 = true := by kernel_rfl
@[go_sem] theorem cl38 : callable Tryd.prog 38 = true := by kernel_rfl
@[go_sem] theorem cl39 : callable Tryd.prog 39 = true := by kernel_rfl
@[go_sem] theorem cl40 : callable Tryd.prog 40 = true := by kernel_rfl
end Go.Proofs.YtgkafceckdoabaaDoor
