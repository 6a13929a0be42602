import Derived.Test.YtndiamkmcoghdaaYaFw4
import Derived.Test.YtndiamkmcoghdaaProg
import Derived.KernelRfl
set_option linter.all false
namespace Go.Proofs.Ytndiamkmcoghdaa
open Go.Ab
@[go_sem] theorem tk2 : tyk Try.prog 2 = some ⟨.int .i64, 1, 8, .v (.int .i64 0)⟩ := by kernel_rfl
@[go_sem] theorem tk3 : tyk Try.prog 3 = some ⟨.int .i64, 1, 8, .v (.int .i64 0)⟩ := by kernel_rfl
@[go_sem] theorem tk4 : tyk Try.prog 4 = some ⟨.bool, 1, 1, .v (.bool false)⟩ := by kernel_rfl
@[go_sem] theorem tk5 : tyk Try.prog 5 = some ⟨.int .u8, 1, 1, .v (.int .u8 0)⟩ := by kernel_rfl
@[go_sem] theorem tk6 : tyk Try.prog 6 = some ⟨.int .u8, 1, 1, .v (.int .u8 0)⟩ := by kernel_rfl
@[go_sem] theorem tk7 : tyk Try.prog 7 = some ⟨.struct [(0, 2), (1, 3), (2, 4), (3, 6)], 4, 24, .agg [.v (.int .i64 0), .v (.int .i64 0), .v (.bool false), .v (.int .u8 0)]⟩ := by kernel_rfl
@[go_sem] theorem tk8 : tyk Try.prog 8 = some ⟨.struct [(0, 2), (1, 3), (2, 4), (3, 6)], 4, 24, .agg [.v (.int .i64 0), .v (.int .i64 0), .v (.bool false), .v (.int .u8 0)]⟩ := by kernel_rfl
@[go_sem] theorem tk9 : tyk Try.prog 9 = some ⟨.str, 1, 16, .v (.string ⟨#[]⟩)⟩ := by kernel_rfl
@[go_sem] theorem tk10 : tyk Try.prog 10 = some ⟨.str, 1, 16, .v (.string ⟨#[]⟩)⟩ := by kernel_rfl
@[go_sem] theorem tk11 : tyk Try.prog 11 = some ⟨.str, 1, 16, .v (.string ⟨#[]⟩)⟩ := by kernel_rfl
@[go_sem] theorem tk12 : tyk Try.prog 12 = some ⟨.int .u64, 1, 8, .v (.int .u64 0)⟩ := by kernel_rfl
@[go_sem] theorem tk13 : tyk Try.prog 13 = some ⟨.struct [(0, 9), (1, 12)], 2, 24, .agg [.v (.string ⟨#[]⟩), .v (.int .u64 0)]⟩ := by kernel_rfl
@[go_sem] theorem tk14 : tyk Try.prog 14 = some ⟨.struct [(0, 9), (1, 12)], 2, 24, .agg [.v (.string ⟨#[]⟩), .v (.int .u64 0)]⟩ := by kernel_rfl
@[go_sem] theorem tk15 : tyk Try.prog 15 = some ⟨.ptr, 1, 8, .v (.pointer none)⟩ := by kernel_rfl
@[go_sem] theorem tk16 : tyk Try.prog 16 = some ⟨.ptr, 1, 8, .v (.pointer none)⟩ := by kernel_rfl
@[go_sem] theorem tk17 : tyk Try.prog 17 = some ⟨.ptr, 1, 8, .v (.pointer none)⟩ := by kernel_rfl
@[go_sem] theorem tk18 : tyk Try.prog 18 = some ⟨.struct [(0, 17)], 1, 8, .agg [.v (.pointer none)]⟩ := by kernel_rfl
@[go_sem] theorem tk19 : tyk Try.prog 19 = some ⟨.struct [(0, 17)], 1, 8, .agg [.v (.pointer none)]⟩ := by kernel_rfl
@[go_sem] theorem tk21 : tyk Try.prog 21 = some ⟨.int .i32, 1, 4, .v (.int .i32 0)⟩ := by kernel_rfl
@[go_sem] theorem tk22 : tyk Try.prog 22 = some ⟨.slice 36, 1, 24, .nil⟩ := by kernel_rfl
@[go_sem] theorem tk25 : tyk Try.prog 25 = some ⟨.slice 3, 1, 24, .nil⟩ := by kernel_rfl
@[go_sem] theorem tk26 : tyk Try.prog 26 = some ⟨.int .i64, 1, 8, .v (.int .i64 0)⟩ := by kernel_rfl
@[go_sem] theorem tk29 : tyk Try.prog 29 = some ⟨.slice 34, 1, 24, .nil⟩ := by kernel_rfl
@[go_sem] theorem tk34 : tyk Try.prog 34 = some ⟨.slice 38, 1, 24, .nil⟩ := by kernel_rfl
@[go_sem] theorem tk35 : tyk Try.prog 35 = some ⟨.struct [(0, 3), (1, 3), (2, 3), (3, 34), (4, 25)], 5, 72, .agg [.v (.int .i64 0), .v (.int .i64 0), .v (.int .i64 0), .nil, .nil]⟩ := by kernel_rfl
@[go_sem] theorem tk36 : tyk Try.prog 36 = some ⟨.struct [(0, 3), (1, 3), (2, 3), (3, 34), (4, 25)], 5, 72, .agg [.v (.int .i64 0), .v (.int .i64 0), .v (.int .i64 0), .nil, .nil]⟩ := by kernel_rfl
@[go_sem] theorem bk36 : bldOK Try.prog 36 = true := by kernel_rfl
@[go_sem] theorem ek36 : eqOK Try.prog 36 = true := by kernel_rfl
@[go_sem] theorem tk37 : tyk Try.prog 37 = some ⟨.struct [(0, 3), (1, 3)], 2, 16, .agg [.v (.int .i64 0), .v (.int .i64 0)]⟩ := by kernel_rfl
@[go_sem] theorem tk38 : tyk Try.prog 38 = some ⟨.struct [(0, 3), (1, 3)], 2, 16, .agg [.v (.int .i64 0), .v (.int .i64 0)]⟩ := by kernel_rfl
@[go_sem] theorem bk38 : bldOK Try.prog 38 = true := by kernel_rfl
@[go_sem] theorem ek38 : eqOK Try.prog 38 = true := by kernel_rfl
@[go_sem] theorem tk40 : tyk Try.prog 40 = some ⟨.slice 25, 1, 24, .nil⟩ := by kernel_rfl
@[go_sem] theorem tk41 : tyk Try.prog 41 = some ⟨.slice 48, 1, 24, .nil⟩ := by kernel_rfl
@[go_sem] theorem tk45 : tyk Try.prog 45 = some ⟨.struct [(0, 3), (1, 25)], 2, 32, .agg [.v (.int .i64 0), .nil]⟩ := by kernel_rfl
@[go_sem] theorem tk46 : tyk Try.prog 46 = some ⟨.struct [(0, 3), (1, 25)], 2, 32, .agg [.v (.int .i64 0), .nil]⟩ := by kernel_rfl
@[go_sem] theorem bk46 : bldOK Try.prog 46 = true := by kernel_rfl
@[go_sem] theorem ek46 : eqOK Try.prog 46 = true := by kernel_rfl
@[go_sem] theorem tk47 : tyk Try.prog 47 = some ⟨.struct [(0, 46), (2, 46)], 4, 64, .agg [.v (.int .i64 0), .nil, .v (.int .i64 0), .nil]⟩ := by kernel_rfl
@[go_sem] theorem tk48 : tyk Try.prog 48 = some ⟨.struct [(0, 46), (2, 46)], 4, 64, .agg [.v (.int .i64 0), .nil, .v (.int .i64 0), .nil]⟩ := by kernel_rfl
@[go_sem] theorem bk48 : bldOK Try.prog 48 = true := by kernel_rfl
@[go_sem] theorem ek48 : eqOK Try.prog 48 = true := by kernel_rfl
@[go_sem] theorem tk64 : tyk Try.prog 64 = some ⟨.ptr, 1, 8, .v (.pointer none)⟩ := by kernel_rfl
@[go_sem] theorem tk65 : tyk Try.prog 65 = some ⟨.struct [(0, 26)], 1, 8, .agg [.v (.int .i64 0)]⟩ := by kernel_rfl
@[go_sem] theorem tk66 : tyk Try.prog 66 = some ⟨.struct [(0, 26)], 1, 8, .agg [.v (.int .i64 0)]⟩ := by kernel_rfl
@[go_sem] theorem bk66 : bldOK Try.prog 66 = true := by kernel_rfl
@[go_sem] theorem ek66 : eqOK Try.prog 66 = true := by kernel_rfl
@[go_sem] theorem tk68 : tyk Try.prog 68 = some ⟨.slice 41, 1, 24, .nil⟩ := by kernel_rfl
@[go_sem] theorem tk99 : tyk Try.prog 99 = some ⟨.int .u64, 1, 8, .v (.int .u64 0)⟩ := by kernel_rfl
@[go_sem] theorem tk100 : tyk Try.prog 100 = some ⟨.int .u64, 1, 8, .v (.int .u64 0)⟩ := by kernel_rfl
@[go_sem] theorem tk121 : tyk Try.prog 121 = some ⟨.struct [(0, 17), (1, 17), (2, 17), (3, 9)], 4, 40, .agg [.v (.pointer none), .v (.pointer none), .v (.pointer none), .v (.string ⟨#[]⟩)]⟩ := by kernel_rfl
@[go_sem] theorem tk122 : tyk Try.prog 122 = some ⟨.struct [(0, 17), (1, 17), (2, 17), (3, 9)], 4, 40, .agg [.v (.pointer none), .v (.pointer none), .v (.pointer none), .v (.string ⟨#[]⟩)]⟩ := by kernel_rfl
@[go_sem] theorem tk123 : tyk Try.prog 123 = some ⟨.arr 0 16, 0, 0, .agg []⟩ := by kernel_rfl
@[go_sem] theorem tk124 : tyk Try.prog 124 = some ⟨.struct [(0, 123)], 0, 0, .agg []⟩ := by kernel_rfl
@[go_sem] theorem tk125 : tyk Try.prog 125 = some ⟨.struct [(0, 123)], 0, 0, .agg []⟩ := by kernel_rfl
@[go_sem] theorem tk127 : tyk Try.prog 127 = some ⟨.int .u32, 1, 4, .v (.int .u32 0)⟩ := by kernel_rfl
@[go_sem] theorem tk128 : tyk Try.prog 128 = some ⟨.int .u8, 1, 1, .v (.int .u8 0)⟩ := by kernel_rfl
@[go_sem] theorem tk129 : tyk Try.prog 129 = some ⟨.int .u8, 1, 1, .v (.int .u8 0)⟩ := by kernel_rfl
@[go_sem] theorem tk131 : tyk Try.prog 131 = some ⟨.ptr, 1, 8, .v (.pointer none)⟩ := by kernel_rfl
@[go_sem] theorem tk132 : tyk Try.prog 132 = some ⟨.int .i32, 1, 4, .v (.int .i32 0)⟩ := by kernel_rfl
@[go_sem] theorem tk133 : tyk Try.prog 133 = some ⟨.int .i32, 1, 4, .v (.int .i32 0)⟩ := by kernel_rfl
@[go_sem] theorem tk134 : tyk Try.prog 134 = some ⟨.struct [(0, 12), (1, 12), (2, 127), (3, 128), (4, 5), (5, 5), (6, 129), (7, 130), (8, 131), (9, 132), (10, 133)], 11, 48, .agg [.v (.int .u64 0), .v (.int .u64 0), .v (.int .u32 0), .v (.int .u8 0), .v (.int .u8 0), .v (.int .u8 0), .v (.int .u8 0), .v .nilFunc, .v (.pointer none), .v (.int .i32 0), .v (.int .i32 0)]⟩ := by kernel_rfl
@[go_sem] theorem tk135 : tyk Try.prog 135 = some ⟨.struct [(0, 12), (1, 12), (2, 127), (3, 128), (4, 5), (5, 5), (6, 129), (7, 130), (8, 131), (9, 132), (10, 133)], 11, 48, .agg [.v (.int .u64 0), .v (.int .u64 0), .v (.int .u32 0), .v (.int .u8 0), .v (.int .u8 0), .v (.int .u8 0), .v (.int .u8 0), .v .nilFunc, .v (.pointer none), .v (.int .i32 0), .v (.int .i32 0)]⟩ := by kernel_rfl
@[go_sem] theorem cl3 : callable Try.prog 3 = true := by kernel_rfl
@[go_sem] theorem cl4 : callable Try.prog 4 = true := by kernel_rfl
@[go_sem] theorem cl5 : callable Try.prog 5 = true := by kernel_rfl
@[go_sem] theorem cl6 : callable Try.prog 6 = true := by kernel_rfl
@[go_sem] theorem cl7 : callable Try.prog 7 = true := by kernel_rfl
@[go_sem] theorem cl8 : callable Try.prog 8 = true := by kernel_rfl
@[go_sem] theorem cl9 : callable Try.prog 9 = true := by kernel_rfl
@[go_sem] theorem cl10 : callable Try.prog 10 = true := by kernel_rfl
@[go_sem] theorem cl11 : callable Try.prog 11 = true := by kernel_rfl
@[go_sem] theorem cl12 : callable Try.prog 12 = true := by kernel_rfl
@[go_sem] theorem cl13 : callable Try.prog 13 = true := by kernel_rfl
@[go_sem] theorem cl14 : callable Try.prog 14 = true := by kernel_rfl
@[go_sem] theorem cl15 : callable Try.prog 15 = true := by kernel_rfl
@[go_sem] theorem cl16 : callable Try.prog 16 = true := by kernel_rfl
@[go_sem] theorem cl17 : callable Try.prog 17 = true := by kernel_rfl
@[go_sem] theorem cl18 : callable Try.prog 18 = true := by kernel_rfl
@[go_sem] theorem cl19 : callable Try.prog 19 = true := by kernel_rfl
@[go_sem] theorem cl20 : callable Try.prog 20 = true := by kernel_rfl
@[go_sem] theorem cl21 : callable Try.prog 21 = true := by kernel_rfl
@[go_sem] theorem cl22 : callable Try.prog 22 = true := by kernel_rfl
@[go_sem] theorem cl23 : callable Try.prog 23 = true := by kernel_rfl
@[go_sem] theorem cl24 : callable Try.prog 24 = true := by kernel_rfl
@[go_sem] theorem cl25 : callable Try.prog 25 = true := by kernel_rfl
@[go_sem] theorem cl26 : callable Try.prog 26 = true := by kernel_rfl
@[go_sem] theorem cl27 : callable Try.prog 27 = true := by kernel_rfl
@[go_sem] theorem cl28 : callable Try.prog 28 = true := by kernel_rfl
@[go_sem] theorem cl29 : callable Try.prog 29 = true := by kernel_rfl
@[go_sem] theorem cl30 : callable Try.prog 30 = true := by kernel_rfl
@[go_sem] theorem cl31 : callable Try.prog 31 = true := by kernel_rfl
@[go_sem] theorem cl32 : callable Try.prog 32 = true := by kernel_rfl
@[go_sem] theorem cl33 : callable Try.prog 33 = true := by kernel_rfl
@[go_sem] theorem cl34 : callable Try.prog 34 = true := by kernel_rfl
@[go_sem] theorem cl35 : callable Try.prog 35 = true := by kernel_rfl
@[go_sem] theorem cl36 : callable Try.prog 36 = true := by kernel_rfl
@[go_sem] theorem cl37 : callable Try.prog 37 = true := by kernel_rfl
@[go_sem] theorem cl38 : callable Try.prog 38 = true := by kernel_rfl
@[go_sem] theorem cl39 : callable Try.prog 39 = true := by kernel_rfl
@[go_sem] theorem cl40 : callable Try.prog 40 = true := by kernel_rfl
@[go_sem] theorem cl41 : callable Try.prog 41 = true := by kernel_rfl
@[go_sem] theorem cl42 : callable Try.prog 42 = true := by kernel_rfl
@[go_sem] theorem cl43 : callable Try.prog 43 = true := by kernel_rfl
@[go_sem] theorem cl44 : callable Try.prog 44 = true := by kernel_rfl
@[go_sem] theorem cl45 : callable Try.prog 45 = true := by kernel_rfl
@[go_sem] theorem cl46 : callable Try.prog 46 = true := by kernel_rfl
@[go_sem] theorem cl47 : callable Try.prog 47 = true := by kernel_rfl
@[go_sem] theorem cl48 : callable Try.prog 48 = true := by kernel_rfl
@[go_sem] theorem cl49 : callable Try.prog 49 = true := by kernel_rfl
@[go_sem] theorem cl50 : callable Try.prog 50 = true := by kernel_rfl
@[go_sem] theorem cl51 : callable Try.prog 51 = true := by kernel_rfl
@[go_sem] theorem cl52 : callable Try.prog 52 = true := by kernel_rfl
@[go_sem] theorem cl53 : callable Try.prog 53 = true := by kernel_rfl
@[go_sem] theorem cl54 : callable Try.prog 54 = true := by kernel_rfl
@[go_sem] theorem cl55 : callable Try.prog 55 = true := by kernel_rfl
@[go_sem] theorem cl56 : callable Try.prog 56 = true := by kernel_rfl
@[go_sem] theorem cl57 : callable Try.prog 57 = true := by kernel_rfl
@[go_sem] theorem cl58 : callable Try.prog 58 = true := by kernel_rfl
@[go_sem] theorem cl59 : callable Try.prog 59 = true := by kernel_rfl
@[go_sem] theorem cl60 : callable Try.prog 60 = true := by kernel_rfl
@[go_sem] theorem cl61 : callable Try.prog 61 = true := by kernel_rfl
@[go_sem] theorem cl62 : callable Try.prog 62 = true := by kernel_rfl
@[go_sem] theorem cl63 : callable Try.prog 63 = true := by kernel_rfl
@[go_sem] theorem cl64 : callable Try.prog 64 = true := by kernel_rfl
@[go_sem] theorem cl65 : callable Try.prog 65 = true := by kernel_rfl
@[go_sem] theorem cl66 : callable Try.prog 66 = true := by kernel_rfl
@[go_sem] theorem cl67 : callable Try.prog 67 = true := by kernel_rfl
@[go_sem] theorem cl68 : callable Try.prog 68 = true := by kernel_rfl
@[go_sem] theorem cl69 : callable Try.prog 69 = true := by kernel_rfl
@[go_sem] theorem cl70 : callable Try.prog 70 = true := by kernel_rfl
@[go_sem] theorem cl71 : callable Try.prog 71 = true := by kernel_rfl
@[go_sem] theorem cl72 : callable Try.prog 72 = true := by kernel_rfl
@[go_sem] theorem cl73 : callable Try.prog 73 = true := by kernel_rfl
@[go_sem] theorem cl74 : callable Try.prog 74 = true := by kernel_rfl
@[go_sem] theorem cl75 : callable Try.prog 75 = true := by kernel_rfl
@[go_sem] theorem cl76 : callable Try.prog 76 = true := by kernel_rfl
@[go_sem] theorem cl77 : callable Try.prog 77 = true := by kernel_rfl
@[go_sem] theorem cl78 : callable Try.prog 78 = true := by kernel_rfl
@[go_sem] theorem cl79 : callable Try.prog 79 = true := by kernel_rfl
@[go_sem] theorem cl80 : callable Try.prog 80 = true := by kernel_rfl
@[go_sem] theorem cl81 : callable Try.prog 81 = true := by kernel_rfl
@[go_sem] theorem cl82 : callable Try.prog 82 = true := by kernel_rfl
@[go_sem] theorem cl83 : callable Try.prog 83 = true := by kernel_rfl
@[go_sem] theorem cl84 : callable Try.prog 84 = true := by kernel_rfl
@[go_sem] theorem cl85 : callable Try.prog 85 = true := by kernel_rfl
@[go_sem] theorem cl86 : callable Try.prog 86 = true := by kernel_rfl
@[go_sem] theorem cl87 : callable Try.prog 87 = true := by kernel_rfl
@[go_sem] theorem cl88 : callable Try.prog 88 = true := by kernel_rfl
@[go_sem] theorem cl89 : callable Try.prog 89 = true := by kernel_rfl
@[go_sem] theorem cl90 : callable Try.prog 90 = true := by kernel_rfl
@[go_sem] theorem cl91 : callable Try.prog 91 = true := by kernel_rfl
@[go_sem] theorem cl92 : callable Try.prog 92 = true := by kernel_rfl
@[go_sem] theorem cl93 : callable Try.prog 93 = true := by kernel_rfl
@[go_sem] theorem cl94 : callable Try.prog 94 = true := by kernel_rfl
@[go_sem] theorem cl95 : callable Try.prog 95 = true := by kernel_rfl
@[go_sem] theorem cl96 : callable Try.prog 96 = true := by kernel_rfl
@[go_sem] theorem cl97 : callable Try.prog 97 = true := by kernel_rfl
@[go_sem] theorem cl98 : callable Try.prog 98 = true := by kernel_rfl
end Go.Proofs.Ytndiamkmcoghdaa

