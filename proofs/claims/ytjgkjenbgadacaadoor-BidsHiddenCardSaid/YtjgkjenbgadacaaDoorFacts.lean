/-
  The facts on the types and the functions of this translation.
-/
import Derived.Test.YtjgkjenbgadacaaDoorFw4
import Derived.Test.YtjgkjenbgadacaaDoorProg
import Derived.KernelRfl
set_option linter.all false
namespace Go.Proofs.YtjgkjenbgadacaaDoor
open Go.Ab
/- int64 -/
@[go_sem] theorem tk2 : tyk Tryd.prog 2 = some ⟨.int .i64, 1, 8, .v (.int .i64 0)⟩ := by kernel_rfl
/- int -/
@[go_sem] theorem tk3 : tyk Tryd.prog 3 = some ⟨.int .i64, 1, 8, .v (.int .i64 0)⟩ := by kernel_rfl
/- bool -/
@[go_sem] theorem tk4 : tyk Tryd.prog 4 = some ⟨.bool, 1, 1, .v (.bool false)⟩ := by kernel_rfl
/- uint8 -/
@[go_sem] theorem tk5 : tyk Tryd.prog 5 = some ⟨.int .u8, 1, 1, .v (.int .u8 0)⟩ := by kernel_rfl
/- abi.BoundsErrorCode -/
@[go_sem] theorem tk6 : tyk Tryd.prog 6 = some ⟨.int .u8, 1, 1, .v (.int .u8 0)⟩ := by kernel_rfl

@[go_sem] theorem tk7 : tyk Tryd.prog 7 = some ⟨.struct [(0, 2), (1, 3), (2, 4), (3, 6)], 4, 24, .agg [.v (.int .i64 0), .v (.int .i64 0), .v (.bool false), .v (.int .u8 0)]⟩ := by kernel_rfl
/- runtime.boundsError -/
@[go_sem] theorem tk8 : tyk Tryd.prog 8 = some ⟨.struct [(0, 2), (1, 3), (2, 4), (3, 6)], 4, 24, .agg [.v (.int .i64 0), .v (.int .i64 0), .v (.bool false), .v (.int .u8 0)]⟩ := by kernel_rfl
/- string -/
@[go_sem] theorem tk9 : tyk Tryd.prog 9 = some ⟨.str, 1, 16, .v (.string ⟨#[]⟩)⟩ := by kernel_rfl
/- runtime.errorString -/
@[go_sem] theorem tk10 : tyk Tryd.prog 10 = some ⟨.str, 1, 16, .v (.string ⟨#[]⟩)⟩ := by kernel_rfl
/- runtime.plainError -/
@[go_sem] theorem tk11 : tyk Tryd.prog 11 = some ⟨.str, 1, 16, .v (.string ⟨#[]⟩)⟩ := by kernel_rfl
/- uintptr -/
@[go_sem] theorem tk12 : tyk Tryd.prog 12 = some ⟨.int .u64, 1, 8, .v (.int .u64 0)⟩ := by kernel_rfl
/- struct { msg string; addr uintptr } -/
@[go_sem] theorem tk13 : tyk Tryd.prog 13 = some ⟨.struct [(0, 9), (1, 12)], 2, 24, .agg [.v (.string ⟨#[]⟩), .v (.int .u64 0)]⟩ := by kernel_rfl
/- runtime.errorAddressString -/
@[go_sem] theorem tk14 : tyk Tryd.prog 14 = some ⟨.struct [(0, 9), (1, 12)], 2, 24, .agg [.v (.string ⟨#[]⟩), .v (.int .u64 0)]⟩ := by kernel_rfl
/- *runtime.TypeAssertionError -/
@[go_sem] theorem tk15 : tyk Tryd.prog 15 = some ⟨.ptr, 1, 8, .v (.pointer none)⟩ := by kernel_rfl
/- *runtime.PanicNilError -/
@[go_sem] theorem tk16 : tyk Tryd.prog 16 = some ⟨.ptr, 1, 8, .v (.pointer none)⟩ := by kernel_rfl
/- *abi.Type -/
@[go_sem] theorem tk17 : tyk Tryd.prog 17 = some ⟨.ptr, 1, 8, .v (.pointer none)⟩ := by kernel_rfl
/- struct { typ *abi.Type } -/
@[go_sem] theorem tk18 : tyk Tryd.prog 18 = some ⟨.struct [(0, 17)], 1, 8, .agg [.v (.pointer none)]⟩ := by kernel_rfl
/- maps.unhashableTypeError -/
@[go_sem] theorem tk19 : tyk Tryd.prog 19 = some ⟨.struct [(0, 17)], 1, 8, .agg [.v (.pointer none)]⟩ := by kernel_rfl
/- int32 -/
@[go_sem] theorem tk21 : tyk Tryd.prog 21 = some ⟨.int .i32, 1, 4, .v (.int .i32 0)⟩ := by kernel_rfl
/- []api.Bid -/
@[go_sem] theorem tk22 : tyk Tryd.prog 22 = some ⟨.slice 24, 1, 24, .nil⟩ := by kernel_rfl
/- struct { Mark int; Who int; N int; Open bool } -/
@[go_sem] theorem tk23 : tyk Tryd.prog 23 = some ⟨.struct [(0, 3), (1, 3), (2, 3), (3, 4)], 4, 32, .agg [.v (.int .i64 0), .v (.int .i64 0), .v (.int .i64 0), .v (.bool false)]⟩ := by kernel_rfl
/- api.Bid -/
@[go_sem] theorem tk24 : tyk Tryd.prog 24 = some ⟨.struct [(0, 3), (1, 3), (2, 3), (3, 4)], 4, 32, .agg [.v (.int .i64 0), .v (.int .i64 0), .v (.int .i64 0), .v (.bool false)]⟩ := by kernel_rfl
@[go_sem] theorem bk24 : bldOK Tryd.prog 24 = true := by kernel_rfl
@[go_sem] theorem ek24 : eqOK Tryd.prog 24 = true := by kernel_rfl
/- []int -/
@[go_sem] theorem tk25 : tyk Tryd.prog 25 = some ⟨.slice 3, 1, 24, .nil⟩ := by kernel_rfl
/- api.Errno -/
@[go_sem] theorem tk27 : tyk Tryd.prog 27 = some ⟨.int .i64, 1, 8, .v (.int .i64 0)⟩ := by kernel_rfl
/- []bool -/
@[go_sem] theorem tk44 : tyk Tryd.prog 44 = some ⟨.slice 4, 1, 24, .nil⟩ := by kernel_rfl
/- *seal.Ring -/
@[go_sem] theorem tk47 : tyk Tryd.prog 47 = some ⟨.ptr, 1, 8, .v (.pointer none)⟩ := by kernel_rfl
/- []api.Signed -/
@[go_sem] theorem tk49 : tyk Tryd.prog 49 = some ⟨.slice 51, 1, 24, .nil⟩ := by kernel_rfl
/- struct { Key int; Text string; Mark int } -/
@[go_sem] theorem tk50 : tyk Tryd.prog 50 = some ⟨.struct [(0, 3), (1, 9), (2, 3)], 3, 32, .agg [.v (.int .i64 0), .v (.string ⟨#[]⟩), .v (.int .i64 0)]⟩ := by kernel_rfl
/- api.Signed -/
@[go_sem] theorem tk51 : tyk Tryd.prog 51 = some ⟨.struct [(0, 3), (1, 9), (2, 3)], 3, 32, .agg [.v (.int .i64 0), .v (.string ⟨#[]⟩), .v (.int .i64 0)]⟩ := by kernel_rfl
@[go_sem] theorem bk51 : bldOK Tryd.prog 51 = true := by kernel_rfl
@[go_sem] theorem ek51 : eqOK Tryd.prog 51 = true := by kernel_rfl
/- map[int]bool -/
@[go_sem] theorem tk65 : tyk Tryd.prog 65 = some ⟨.map 3 4, 1, 8, .v (.map none)⟩ := by kernel_rfl
/- map[api.Sealed]int -/
@[go_sem] theorem tk69 : tyk Tryd.prog 69 = some ⟨.map 74 3, 1, 8, .v (.map none)⟩ := by kernel_rfl
/- []api.Sealed -/
@[go_sem] theorem tk70 : tyk Tryd.prog 70 = some ⟨.slice 74, 1, 24, .nil⟩ := by kernel_rfl
/- struct { entries []api.Sealed; marks map[api.Sealed]int } -/
@[go_sem] theorem tk71 : tyk Tryd.prog 71 = some ⟨.struct [(0, 70), (1, 69)], 2, 32, .agg [.nil, .v (.map none)]⟩ := by kernel_rfl
/- seal.Ring -/
@[go_sem] theorem tk72 : tyk Tryd.prog 72 = some ⟨.struct [(0, 70), (1, 69)], 2, 32, .agg [.nil, .v (.map none)]⟩ := by kernel_rfl
@[go_sem] theorem bk72 : bldOK Tryd.prog 72 = true := by kernel_rfl
@[go_sem] theorem ek72 : eqOK Tryd.prog 72 = true := by kernel_rfl
/- struct { Key int; Text string } -/
@[go_sem] theorem tk73 : tyk Tryd.prog 73 = some ⟨.struct [(0, 3), (1, 9)], 2, 24, .agg [.v (.int .i64 0), .v (.string ⟨#[]⟩)]⟩ := by kernel_rfl
/- api.Sealed -/
@[go_sem] theorem tk74 : tyk Tryd.prog 74 = some ⟨.struct [(0, 3), (1, 9)], 2, 24, .agg [.v (.int .i64 0), .v (.string ⟨#[]⟩)]⟩ := by kernel_rfl
@[go_sem] theorem bk74 : bldOK Tryd.prog 74 = true := by kernel_rfl
@[go_sem] theorem ek74 : eqOK Tryd.prog 74 = true := by kernel_rfl
/- uint -/
@[go_sem] theorem tk84 : tyk Tryd.prog 84 = some ⟨.int .u64, 1, 8, .v (.int .u64 0)⟩ := by kernel_rfl
/- uint32 -/
@[go_sem] theorem tk90 : tyk Tryd.prog 90 = some ⟨.int .u32, 1, 4, .v (.int .u32 0)⟩ := by kernel_rfl
/- uint64 -/
@[go_sem] theorem tk93 : tyk Tryd.prog 93 = some ⟨.int .u64, 1, 8, .v (.int .u64 0)⟩ := by kernel_rfl
/- []uint8 -/
@[go_sem] theorem tk97 : tyk Tryd.prog 97 = some ⟨.slice 5, 1, 24, .nil⟩ := by kernel_rfl
/- [24]uint8 -/
@[go_sem] theorem tk99 : tyk Tryd.prog 99 = some ⟨.arr 24 5, 24, 24, .agg [.v (.int .u8 0), .v (.int .u8 0), .v (.int .u8 0), .v (.int .u8 0), .v (.int .u8 0), .v (.int .u8 0), .v (.int .u8 0), .v (.int .u8 0), .v (.int .u8 0), .v (.int .u8 0), .v (.int .u8 0), .v (.int .u8 0), .v (.int .u8 0), .v (.int .u8 0), .v (.int .u8 0), .v (.int .u8 0), .v (.int .u8 0), .v (.int .u8 0), .v (.int .u8 0), .v (.int .u8 0), .v (.int .u8 0), .v (.int .u8 0), .v (.int .u8 0), .v (.int .u8 0)]⟩ := by kernel_rfl
/- [20]uint64 -/
@[go_sem] theorem tk106 : tyk Tryd.prog 106 = some ⟨.arr 20 93, 20, 160, .agg [.v (.int .u64 0), .v (.int .u64 0), .v (.int .u64 0), .v (.int .u64 0), .v (.int .u64 0), .v (.int .u64 0), .v (.int .u64 0), .v (.int .u64 0), .v (.int .u64 0), .v (.int .u64 0), .v (.int .u64 0), .v (.int .u64 0), .v (.int .u64 0), .v (.int .u64 0), .v (.int .u64 0), .v (.int .u64 0), .v (.int .u64 0), .v (.int .u64 0), .v (.int .u64 0), .v (.int .u64 0)]⟩ := by kernel_rfl
/- [65]uint8 -/
@[go_sem] theorem tk107 : tyk Tryd.prog 107 = some ⟨.arr 65 5, 65, 65, .agg [.v (.int .u8 0), .v (.int .u8 0), .v (.int .u8 0), .v (.int .u8 0), .v (.int .u8 0), .v (.int .u8 0), .v (.int .u8 0), .v (.int .u8 0), .v (.int .u8 0), .v (.int .u8 0), .v (.int .u8 0), .v (.int .u8 0), .v (.int .u8 0), .v (.int .u8 0), .v (.int .u8 0), .v (.int .u8 0), .v (.int .u8 0), .v (.int .u8 0), .v (.int .u8 0), .v (.int .u8 0), .v (.int .u8 0), .v (.int .u8 0), .v (.int .u8 0), .v (.int .u8 0), .v (.int .u8 0), .v (.int .u8 0), .v (.int .u8 0), .v (.int .u8 0), .v (.int .u8 0), .v (.int .u8 0), .v (.int .u8 0), .v (.int .u8 0), .v (.int .u8 0), .v (.int .u8 0), .v (.int .u8 0), .v (.int .u8 0), .v (.int .u8 0), .v (.int .u8 0), .v (.int .u8 0), .v (.int .u8 0), .v (.int .u8 0), .v (.int .u8 0), .v (.int .u8 0), .v (.int .u8 0), .v (.int .u8 0), .v (.int .u8 0), .v (.int .u8 0), .v (.int .u8 0), .v (.int .u8 0), .v (.int .u8 0), .v (.int .u8 0), .v (.int .u8 0), .v (.int .u8 0), .v (.int .u8 0), .v (.int .u8 0), .v (.int .u8 0), .v (.int .u8 0), .v (.int .u8 0), .v (.int .u8 0), .v (.int .u8 0), .v (.int .u8 0), .v (.int .u8 0), .v (.int .u8 0), .v (.int .u8 0), .v (.int .u8 0)]⟩ := by kernel_rfl
/- [32]uint8 -/
@[go_sem] theorem tk110 : tyk Tryd.prog 110 = some ⟨.arr 32 5, 32, 32, .agg [.v (.int .u8 0), .v (.int .u8 0), .v (.int .u8 0), .v (.int .u8 0), .v (.int .u8 0), .v (.int .u8 0), .v (.int .u8 0), .v (.int .u8 0), .v (.int .u8 0), .v (.int .u8 0), .v (.int .u8 0), .v (.int .u8 0), .v (.int .u8 0), .v (.int .u8 0), .v (.int .u8 0), .v (.int .u8 0), .v (.int .u8 0), .v (.int .u8 0), .v (.int .u8 0), .v (.int .u8 0), .v (.int .u8 0), .v (.int .u8 0), .v (.int .u8 0), .v (.int .u8 0), .v (.int .u8 0), .v (.int .u8 0), .v (.int .u8 0), .v (.int .u8 0), .v (.int .u8 0), .v (.int .u8 0), .v (.int .u8 0), .v (.int .u8 0)]⟩ := by kernel_rfl
/- [64]uint8 -/
@[go_sem] theorem tk111 : tyk Tryd.prog 111 = some ⟨.arr 64 5, 64, 64, .agg [.v (.int .u8 0), .v (.int .u8 0), .v (.int .u8 0), .v (.int .u8 0), .v (.int .u8 0), .v (.int .u8 0), .v (.int .u8 0), .v (.int .u8 0), .v (.int .u8 0), .v (.int .u8 0), .v (.int .u8 0), .v (.int .u8 0), .v (.int .u8 0), .v (.int .u8 0), .v (.int .u8 0), .v (.int .u8 0), .v (.int .u8 0), .v (.int .u8 0), .v (.int .u8 0), .v (.int .u8 0), .v (.int .u8 0), .v (.int .u8 0), .v (.int .u8 0), .v (.int .u8 0), .v (.int .u8 0), .v (.int .u8 0), .v (.int .u8 0), .v (.int .u8 0), .v (.int .u8 0), .v (.int .u8 0), .v (.int .u8 0), .v (.int .u8 0), .v (.int .u8 0), .v (.int .u8 0), .v (.int .u8 0), .v (.int .u8 0), .v (.int .u8 0), .v (.int .u8 0), .v (.int .u8 0), .v (.int .u8 0), .v (.int .u8 0), .v (.int .u8 0), .v (.int .u8 0), .v (.int .u8 0), .v (.int .u8 0), .v (.int .u8 0), .v (.int .u8 0), .v (.int .u8 0), .v (.int .u8 0), .v (.int .u8 0), .v (.int .u8 0), .v (.int .u8 0), .v (.int .u8 0), .v (.int .u8 0), .v (.int .u8 0), .v (.int .u8 0), .v (.int .u8 0), .v (.int .u8 0), .v (.int .u8 0), .v (.int .u8 0), .v (.int .u8 0), .v (.int .u8 0), .v (.int .u8 0), .v (.int .u8 0)]⟩ := by kernel_rfl

@[go_sem] theorem tk113 : tyk Tryd.prog 113 = some ⟨.struct [(0, 17), (1, 17), (2, 17), (3, 9)], 4, 40, .agg [.v (.pointer none), .v (.pointer none), .v (.pointer none), .v (.string ⟨#[]⟩)]⟩ := by kernel_rfl
/- runtime.TypeAssertionError -/
@[go_sem] theorem tk114 : tyk Tryd.prog 114 = some ⟨.struct [(0, 17), (1, 17), (2, 17), (3, 9)], 4, 40, .agg [.v (.pointer none), .v (.pointer none), .v (.pointer none), .v (.string ⟨#[]⟩)]⟩ := by kernel_rfl
/- [0]*runtime.PanicNilError -/
@[go_sem] theorem tk115 : tyk Tryd.prog 115 = some ⟨.arr 0 16, 0, 0, .agg []⟩ := by kernel_rfl
/- struct { _ [0]*runtime.PanicNilError } -/
@[go_sem] theorem tk116 : tyk Tryd.prog 116 = some ⟨.struct [(0, 115)], 0, 0, .agg []⟩ := by kernel_rfl
/- runtime.PanicNilError -/
@[go_sem] theorem tk117 : tyk Tryd.prog 117 = some ⟨.struct [(0, 115)], 0, 0, .agg []⟩ := by kernel_rfl
/- abi.TFlag -/
@[go_sem] theorem tk119 : tyk Tryd.prog 119 = some ⟨.int .u8, 1, 1, .v (.int .u8 0)⟩ := by kernel_rfl
/- abi.Kind -/
@[go_sem] theorem tk120 : tyk Tryd.prog 120 = some ⟨.int .u8, 1, 1, .v (.int .u8 0)⟩ := by kernel_rfl
/- *uint8 -/
@[go_sem] theorem tk122 : tyk Tryd.prog 122 = some ⟨.ptr, 1, 8, .v (.pointer none)⟩ := by kernel_rfl
/- abi.NameOff -/
@[go_sem] theorem tk123 : tyk Tryd.prog 123 = some ⟨.int .i32, 1, 4, .v (.int .i32 0)⟩ := by kernel_rfl
/- abi.TypeOff -/
@[go_sem] theorem tk124 : tyk Tryd.prog 124 = some ⟨.int .i32, 1, 4, .v (.int .i32 0)⟩ := by kernel_rfl

@[go_sem] theorem tk125 : tyk Tryd.prog 125 = some ⟨.struct [(0, 12), (1, 12), (2, 90), (3, 119), (4, 5), (5, 5), (6, 120), (7, 121), (8, 122), (9, 123), (10, 124)], 11, 48, .agg [.v (.int .u64 0), .v (.int .u64 0), .v (.int .u32 0), .v (.int .u8 0), .v (.int .u8 0), .v (.int .u8 0), .v (.int .u8 0), .v .nilFunc, .v (.pointer none), .v (.int .i32 0), .v (.int .i32 0)]⟩ := by kernel_rfl
/- abi.Type -/
@[go_sem] theorem tk126 : tyk Tryd.prog 126 = some ⟨.struct [(0, 12), (1, 12), (2, 90), (3, 119), (4, 5), (5, 5), (6, 120), (7, 121), (8, 122), (9, 123), (10, 124)], 11, 48, .agg [.v (.int .u64 0), .v (.int .u64 0), .v (.int .u32 0), .v (.int .u8 0), .v (.int .u8 0), .v (.int .u8 0), .v (.int .u8 0), .v .nilFunc, .v (.pointer none), .v (.int .i32 0), .v (.int .i32 0)]⟩ := by kernel_rfl
@[go_sem] theorem cl3 : callable Tryd.prog 3 = true := by kernel_rfl
@[go_sem] theorem cl4 : callable Tryd.prog 4 = true := by kernel_rfl
@[go_sem] theorem cl5 : callable Tryd.prog 5 = true := by kernel_rfl
@[go_sem] theorem cl6 : callable Tryd.prog 6 = true := by kernel_rfl
@[go_sem] theorem cl7 : callable Tryd.prog 7 = true := by kernel_rfl
@[go_sem] theorem cl8 : callable Tryd.prog 8 = true := by kernel_rfl
@[go_sem] theorem cl9 : callable Tryd.prog 9 = true := by kernel_rfl
@[go_sem] theorem cl10 : callable Tryd.prog 10 = true := by kernel_rfl
@[go_sem] theorem cl11 : callable Tryd.prog 11 = true := by kernel_rfl
@[go_sem] theorem cl12 : callable Tryd.prog 12 = true := by kernel_rfl
@[go_sem] theorem cl13 : callable Tryd.prog 13 = true := by kernel_rfl
@[go_sem] theorem cl14 : callable Tryd.prog 14 = true := by kernel_rfl
@[go_sem] theorem cl15 : callable Tryd.prog 15 = true := by kernel_rfl
@[go_sem] theorem cl16 : callable Tryd.prog 16 = true := by kernel_rfl
@[go_sem] theorem cl17 : callable Tryd.prog 17 = true := by kernel_rfl
@[go_sem] theorem cl18 : callable Tryd.prog 18 = true := by kernel_rfl
@[go_sem] theorem cl19 : callable Tryd.prog 19 = true := by kernel_rfl
@[go_sem] theorem cl20 : callable Tryd.prog 20 = true := by kernel_rfl
@[go_sem] theorem cl21 : callable Tryd.prog 21 = true := by kernel_rfl
@[go_sem] theorem cl22 : callable Tryd.prog 22 = true := by kernel_rfl
@[go_sem] theorem cl23 : callable Tryd.prog 23 = true := by kernel_rfl
@[go_sem] theorem cl24 : callable Tryd.prog 24 = true := by kernel_rfl
@[go_sem] theorem cl25 : callable Tryd.prog 25 = true := by kernel_rfl
@[go_sem] theorem cl26 : callable Tryd.prog 26 = true := by kernel_rfl
@[go_sem] theorem cl27 : callable Tryd.prog 27 = true := by kernel_rfl
@[go_sem] theorem cl28 : callable Tryd.prog 28 = true := by kernel_rfl
@[go_sem] theorem cl29 : callable Tryd.prog 29 = true := by kernel_rfl
@[go_sem] theorem cl30 : callable Tryd.prog 30 = true := by kernel_rfl
@[go_sem] theorem cl31 : callable Tryd.prog 31 = true := by kernel_rfl
@[go_sem] theorem cl32 : callable Tryd.prog 32 = true := by kernel_rfl
@[go_sem] theorem cl33 : callable Tryd.prog 33 = true := by kernel_rfl
@[go_sem] theorem cl34 : callable Tryd.prog 34 = true := by kernel_rfl
@[go_sem] theorem cl35 : callable Tryd.prog 35 = true := by kernel_rfl
@[go_sem] theorem cl36 : callable Tryd.prog 36 = true := by kernel_rfl
@[go_sem] theorem cl37 : callable Tryd.prog 37 = true := by kernel_rfl
@[go_sem] theorem cl38 : callable Tryd.prog 38 = true := by kernel_rfl
@[go_sem] theorem cl39 : callable Tryd.prog 39 = true := by kernel_rfl
@[go_sem] theorem cl40 : callable Tryd.prog 40 = true := by kernel_rfl
@[go_sem] theorem cl41 : callable Tryd.prog 41 = true := by kernel_rfl
@[go_sem] theorem cl42 : callable Tryd.prog 42 = true := by kernel_rfl
@[go_sem] theorem cl43 : callable Tryd.prog 43 = true := by kernel_rfl
@[go_sem] theorem cl44 : callable Tryd.prog 44 = true := by kernel_rfl
@[go_sem] theorem cl45 : callable Tryd.prog 45 = true := by kernel_rfl
@[go_sem] theorem cl46 : callable Tryd.prog 46 = true := by kernel_rfl
@[go_sem] theorem cl47 : callable Tryd.prog 47 = true := by kernel_rfl
@[go_sem] theorem cl48 : callable Tryd.prog 48 = true := by kernel_rfl
@[go_sem] theorem cl49 : callable Tryd.prog 49 = true := by kernel_rfl
@[go_sem] theorem cl50 : callable Tryd.prog 50 = true := by kernel_rfl
@[go_sem] theorem cl51 : callable Tryd.prog 51 = true := by kernel_rfl
@[go_sem] theorem cl52 : callable Tryd.prog 52 = true := by kernel_rfl
@[go_sem] theorem cl53 : callable Tryd.prog 53 = true := by kernel_rfl
@[go_sem] theorem cl54 : callable Tryd.prog 54 = true := by kernel_rfl
@[go_sem] theorem cl55 : callable Tryd.prog 55 = true := by kernel_rfl
@[go_sem] theorem cl56 : callable Tryd.prog 56 = true := by kernel_rfl
@[go_sem] theorem cl58 : callable Tryd.prog 58 = true := by kernel_rfl
@[go_sem] theorem cl59 : callable Tryd.prog 59 = true := by kernel_rfl
@[go_sem] theorem cl60 : callable Tryd.prog 60 = true := by kernel_rfl
@[go_sem] theorem cl61 : callable Tryd.prog 61 = true := by kernel_rfl
@[go_sem] theorem cl62 : callable Tryd.prog 62 = true := by kernel_rfl
@[go_sem] theorem cl63 : callable Tryd.prog 63 = true := by kernel_rfl
@[go_sem] theorem cl64 : callable Tryd.prog 64 = true := by kernel_rfl
@[go_sem] theorem cl65 : callable Tryd.prog 65 = true := by kernel_rfl
@[go_sem] theorem cl66 : callable Tryd.prog 66 = true := by kernel_rfl
@[go_sem] theorem cl67 : callable Tryd.prog 67 = true := by kernel_rfl
@[go_sem] theorem cl68 : callable Tryd.prog 68 = true := by kernel_rfl
@[go_sem] theorem cl69 : callable Tryd.prog 69 = true := by kernel_rfl
@[go_sem] theorem cl70 : callable Tryd.prog 70 = true := by kernel_rfl
@[go_sem] theorem cl71 : callable Tryd.prog 71 = true := by kernel_rfl
@[go_sem] theorem cl72 : callable Tryd.prog 72 = true := by kernel_rfl
@[go_sem] theorem cl73 : callable Tryd.prog 73 = true := by kernel_rfl
@[go_sem] theorem cl74 : callable Tryd.prog 74 = true := by kernel_rfl
@[go_sem] theorem cl75 : callable Tryd.prog 75 = true := by kernel_rfl
@[go_sem] theorem cl76 : callable Tryd.prog 76 = true := by kernel_rfl
@[go_sem] theorem cl77 : callable Tryd.prog 77 = true := by kernel_rfl
@[go_sem] theorem cl78 : callable Tryd.prog 78 = true := by kernel_rfl
@[go_sem] theorem cl79 : callable Tryd.prog 79 = true := by kernel_rfl
@[go_sem] theorem cl80 : callable Tryd.prog 80 = true := by kernel_rfl
@[go_sem] theorem cl81 : callable Tryd.prog 81 = true := by kernel_rfl
@[go_sem] theorem cl82 : callable Tryd.prog 82 = true := by kernel_rfl
@[go_sem] theorem cl84 : callable Tryd.prog 84 = true := by kernel_rfl
@[go_sem] theorem cl91 : callable Tryd.prog 91 = true := by kernel_rfl
@[go_sem] theorem cl94 : callable Tryd.prog 94 = true := by kernel_rfl
@[go_sem] theorem cl95 : callable Tryd.prog 95 = true := by kernel_rfl
@[go_sem] theorem cl96 : callable Tryd.prog 96 = true := by kernel_rfl
end Go.Proofs.YtjgkjenbgadacaaDoor
