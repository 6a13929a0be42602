/-
  The facts on the types and the functions of this translation.
-/
import Derived.Test.YtgfgajofilcniaaFw4
import Derived.Test.YtgfgajofilcniaaProg
import Derived.KernelRfl
set_option linter.all false
namespace Go.Proofs.Ytgfgajofilcniaa
open Go.Ab
/- int64 -/
@[go_sem] theorem tk2 : tyk Try.prog 2 = some ⟨.int .i64, 1, 8, .v (.int .i64 0)⟩ := by kernel_rfl
/- int -/
@[go_sem] theorem tk3 : tyk Try.prog 3 = some ⟨.int .i64, 1, 8, .v (.int .i64 0)⟩ := by kernel_rfl
/- bool -/
@[go_sem] theorem tk4 : tyk Try.prog 4 = some ⟨.bool, 1, 1, .v (.bool false)⟩ := by kernel_rfl
/- uint8 -/
@[go_sem] theorem tk5 : tyk Try.prog 5 = some ⟨.int .u8, 1, 1, .v (.int .u8 0)⟩ := by kernel_rfl
/- abi.BoundsErrorCode -/
@[go_sem] theorem tk6 : tyk Try.prog 6 = some ⟨.int .u8, 1, 1, .v (.int .u8 0)⟩ := by kernel_rfl

@[go_sem] theorem tk7 : tyk Try.prog 7 = some ⟨.struct [(0, 2), (1, 3), (2, 4), (3, 6)], 4, 24, .agg [.v (.int .i64 0), .v (.int .i64 0), .v (.bool false), .v (.int .u8 0)]⟩ := by kernel_rfl
/- runtime.boundsError -/
@[go_sem] theorem tk8 : tyk Try.prog 8 = some ⟨.struct [(0, 2), (1, 3), (2, 4), (3, 6)], 4, 24, .agg [.v (.int .i64 0), .v (.int .i64 0), .v (.bool false), .v (.int .u8 0)]⟩ := by kernel_rfl
/- string -/
@[go_sem] theorem tk9 : tyk Try.prog 9 = some ⟨.str, 1, 16, .v (.string ⟨#[]⟩)⟩ := by kernel_rfl
/- runtime.errorString -/
@[go_sem] theorem tk10 : tyk Try.prog 10 = some ⟨.str, 1, 16, .v (.string ⟨#[]⟩)⟩ := by kernel_rfl
/- runtime.plainError -/
@[go_sem] theorem tk11 : tyk Try.prog 11 = some ⟨.str, 1, 16, .v (.string ⟨#[]⟩)⟩ := by kernel_rfl
/- uintptr -/
@[go_sem] theorem tk12 : tyk Try.prog 12 = some ⟨.int .u64, 1, 8, .v (.int .u64 0)⟩ := by kernel_rfl
/- struct { msg string; addr uintptr } -/
@[go_sem] theorem tk13 : tyk Try.prog 13 = some ⟨.struct [(0, 9), (1, 12)], 2, 24, .agg [.v (.string ⟨#[]⟩), .v (.int .u64 0)]⟩ := by kernel_rfl
/- runtime.errorAddressString -/
@[go_sem] theorem tk14 : tyk Try.prog 14 = some ⟨.struct [(0, 9), (1, 12)], 2, 24, .agg [.v (.string ⟨#[]⟩), .v (.int .u64 0)]⟩ := by kernel_rfl
/- *runtime.TypeAssertionError -/
@[go_sem] theorem tk15 : tyk Try.prog 15 = some ⟨.ptr, 1, 8, .v (.pointer none)⟩ := by kernel_rfl
/- *runtime.PanicNilError -/
@[go_sem] theorem tk16 : tyk Try.prog 16 = some ⟨.ptr, 1, 8, .v (.pointer none)⟩ := by kernel_rfl
/- *abi.Type -/
@[go_sem] theorem tk17 : tyk Try.prog 17 = some ⟨.ptr, 1, 8, .v (.pointer none)⟩ := by kernel_rfl
/- struct { typ *abi.Type } -/
@[go_sem] theorem tk18 : tyk Try.prog 18 = some ⟨.struct [(0, 17)], 1, 8, .agg [.v (.pointer none)]⟩ := by kernel_rfl
/- maps.unhashableTypeError -/
@[go_sem] theorem tk19 : tyk Try.prog 19 = some ⟨.struct [(0, 17)], 1, 8, .agg [.v (.pointer none)]⟩ := by kernel_rfl
/- int32 -/
@[go_sem] theorem tk21 : tyk Try.prog 21 = some ⟨.int .i32, 1, 4, .v (.int .i32 0)⟩ := by kernel_rfl
/- []api.Sealed -/
@[go_sem] theorem tk22 : tyk Try.prog 22 = some ⟨.slice 24, 1, 24, .nil⟩ := by kernel_rfl
/- struct { Key int; Text string } -/
@[go_sem] theorem tk23 : tyk Try.prog 23 = some ⟨.struct [(0, 3), (1, 9)], 2, 24, .agg [.v (.int .i64 0), .v (.string ⟨#[]⟩)]⟩ := by kernel_rfl
/- api.Sealed -/
@[go_sem] theorem tk24 : tyk Try.prog 24 = some ⟨.struct [(0, 3), (1, 9)], 2, 24, .agg [.v (.int .i64 0), .v (.string ⟨#[]⟩)]⟩ := by kernel_rfl
@[go_sem] theorem bk24 : bldOK Try.prog 24 = true := by kernel_rfl
@[go_sem] theorem ek24 : eqOK Try.prog 24 = true := by kernel_rfl
/- *seal.Ring -/
@[go_sem] theorem tk26 : tyk Try.prog 26 = some ⟨.ptr, 1, 8, .v (.pointer none)⟩ := by kernel_rfl
/- []api.Signed -/
@[go_sem] theorem tk29 : tyk Try.prog 29 = some ⟨.slice 31, 1, 24, .nil⟩ := by kernel_rfl
/- struct { Key int; Text string; Mark int } -/
@[go_sem] theorem tk30 : tyk Try.prog 30 = some ⟨.struct [(0, 3), (1, 9), (2, 3)], 3, 32, .agg [.v (.int .i64 0), .v (.string ⟨#[]⟩), .v (.int .i64 0)]⟩ := by kernel_rfl
/- api.Signed -/
@[go_sem] theorem tk31 : tyk Try.prog 31 = some ⟨.struct [(0, 3), (1, 9), (2, 3)], 3, 32, .agg [.v (.int .i64 0), .v (.string ⟨#[]⟩), .v (.int .i64 0)]⟩ := by kernel_rfl
@[go_sem] theorem bk31 : bldOK Try.prog 31 = true := by kernel_rfl
@[go_sem] theorem ek31 : eqOK Try.prog 31 = true := by kernel_rfl
/- api.Errno -/
@[go_sem] theorem tk34 : tyk Try.prog 34 = some ⟨.int .i64, 1, 8, .v (.int .i64 0)⟩ := by kernel_rfl
/- map[api.Sealed]int -/
@[go_sem] theorem tk40 : tyk Try.prog 40 = some ⟨.map 24 3, 1, 8, .v (.map none)⟩ := by kernel_rfl
/- struct { entries []api.Sealed; marks map[api.Sealed]int } -/
@[go_sem] theorem tk41 : tyk Try.prog 41 = some ⟨.struct [(0, 22), (1, 40)], 2, 32, .agg [.nil, .v (.map none)]⟩ := by kernel_rfl
/- seal.Ring -/
@[go_sem] theorem tk42 : tyk Try.prog 42 = some ⟨.struct [(0, 22), (1, 40)], 2, 32, .agg [.nil, .v (.map none)]⟩ := by kernel_rfl
@[go_sem] theorem bk42 : bldOK Try.prog 42 = true := by kernel_rfl
@[go_sem] theorem ek42 : eqOK Try.prog 42 = true := by kernel_rfl

@[go_sem] theorem tk49 : tyk Try.prog 49 = some ⟨.struct [(0, 17), (1, 17), (2, 17), (3, 9)], 4, 40, .agg [.v (.pointer none), .v (.pointer none), .v (.pointer none), .v (.string ⟨#[]⟩)]⟩ := by kernel_rfl
/- runtime.TypeAssertionError -/
@[go_sem] theorem tk50 : tyk Try.prog 50 = some ⟨.struct [(0, 17), (1, 17), (2, 17), (3, 9)], 4, 40, .agg [.v (.pointer none), .v (.pointer none), .v (.pointer none), .v (.string ⟨#[]⟩)]⟩ := by kernel_rfl
/- [0]*runtime.PanicNilError -/
@[go_sem] theorem tk51 : tyk Try.prog 51 = some ⟨.arr 0 16, 0, 0, .agg []⟩ := by kernel_rfl
/- struct { _ [0]*runtime.PanicNilError } -/
@[go_sem] theorem tk52 : tyk Try.prog 52 = some ⟨.struct [(0, 51)], 0, 0, .agg []⟩ := by kernel_rfl
/- runtime.PanicNilError -/
@[go_sem] theorem tk53 : tyk Try.prog 53 = some ⟨.struct [(0, 51)], 0, 0, .agg []⟩ := by kernel_rfl
/- uint32 -/
@[go_sem] theorem tk55 : tyk Try.prog 55 = some ⟨.int .u32, 1, 4, .v (.int .u32 0)⟩ := by kernel_rfl
/- abi.TFlag -/
@[go_sem] theorem tk56 : tyk Try.prog 56 = some ⟨.int .u8, 1, 1, .v (.int .u8 0)⟩ := by kernel_rfl
/- abi.Kind -/
@[go_sem] theorem tk57 : tyk Try.prog 57 = some ⟨.int .u8, 1, 1, .v (.int .u8 0)⟩ := by kernel_rfl
/- *uint8 -/
@[go_sem] theorem tk59 : tyk Try.prog 59 = some ⟨.ptr, 1, 8, .v (.pointer none)⟩ := by kernel_rfl
/- abi.NameOff -/
@[go_sem] theorem tk60 : tyk Try.prog 60 = some ⟨.int .i32, 1, 4, .v (.int .i32 0)⟩ := by kernel_rfl
/- abi.TypeOff -/
@[go_sem] theorem tk61 : tyk Try.prog 61 = some ⟨.int .i32, 1, 4, .v (.int .i32 0)⟩ := by kernel_rfl

@[go_sem] theorem tk62 : tyk Try.prog 62 = some ⟨.struct [(0, 12), (1, 12), (2, 55), (3, 56), (4, 5), (5, 5), (6, 57), (7, 58), (8, 59), (9, 60), (10, 61)], 11, 48, .agg [.v (.int .u64 0), .v (.int .u64 0), .v (.int .u32 0), .v (.int .u8 0), .v (.int .u8 0), .v (.int .u8 0), .v (.int .u8 0), .v .nilFunc, .v (.pointer none), .v (.int .i32 0), .v (.int .i32 0)]⟩ := by kernel_rfl
/- abi.Type -/
@[go_sem] theorem tk63 : tyk Try.prog 63 = some ⟨.struct [(0, 12), (1, 12), (2, 55), (3, 56), (4, 5), (5, 5), (6, 57), (7, 58), (8, 59), (9, 60), (10, 61)], 11, 48, .agg [.v (.int .u64 0), .v (.int .u64 0), .v (.int .u32 0), .v (.int .u8 0), .v (.int .u8 0), .v (.int .u8 0), .v (.int .u8 0), .v .nilFunc, .v (.pointer none), .v (.int .i32 0), .v (.int .i32 0)]⟩ := by kernel_rfl
@[go_sem] theorem cl3 : callable Try.prog 3 = true := by kernel_rfl
@[go_sem] theorem cl4 : callable Try.prog 4 = true := by kernel_rfl
@[go_sem] theorem cl5 : callable Try.prog 5 = true := by kernel_rfl
@[go_sem] theorem cl6 : callable Try.prog 6 = true := by kernel_rfl
@[go_sem] theorem cl7 : callable Try.prog 7 = true := by kernel_rfl
@[go_sem] theorem cl8 : callable Try.prog 8 = true := by kernel_rfl
@[go_sem] theorem cl9 : callable Try.prog 9 = true := by kernel_rfl
@[go_sem] theorem cl10 : callable Try.prog 10 = true := by kernel_rfl
@[go_sem] theorem cl11 : callable Try.prog 11 = true := by kernel_rfl
@[go_sem] theorem cl12 : callable Try.prog 12 = true := by kernel_rfl
@[go_sem] theorem cl13 : callable Try.prog 13 = true := by kernel_rfl
@[go_sem] theorem cl14 : callable Try.prog 14 = true := by kernel_rfl
@[go_sem] theorem cl15 : callable Try.prog 15 = true := by kernel_rfl
end Go.Proofs.Ytgfgajofilcniaa
