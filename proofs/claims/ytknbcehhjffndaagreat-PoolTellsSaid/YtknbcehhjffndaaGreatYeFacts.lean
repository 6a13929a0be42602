import Derived.Test.YtknbcehhjffndaaGreatYeFw4
import Derived.Test.YtknbcehhjffndaaGreatProg
import Derived.KernelRfl
set_option linter.all false
namespace Go.Proofs.YtknbcehhjffndaaGreat
open Go.Ab
@[go_sem] theorem tk2 : tyk Tryz.prog 2 = some ⟨.int .i64,1,8,.v (.int .i64 0)⟩ :=by kernel_rfl
@[go_sem] theorem tk3 : tyk Tryz.prog 3 = some ⟨.int .i64,1,8,.v (.int .i64 0)⟩ :=by kernel_rfl
@[go_sem] theorem tk4 : tyk Tryz.prog 4 = some ⟨.bool,1,1,.v (.bool false)⟩ :=by kernel_rfl
@[go_sem] theorem tk5 : tyk Tryz.prog 5 = some ⟨.int .u8,1,1,.v (.int .u8 0)⟩ :=by kernel_rfl
@[go_sem] theorem tk6 : tyk Tryz.prog 6 = some ⟨.int .u8,1,1,.v (.int .u8 0)⟩ :=by kernel_rfl
@[go_sem] theorem tk7 : tyk Tryz.prog 7 = some ⟨.struct [(0,2),(1,3),(2,4),(3,6)],4,24,.agg [.v (.int .i64 0),.v (.int .i64 0),.v (.bool false),.v (.int .u8 0)]⟩ :=by kernel_rfl
@[go_sem] theorem tk8 : tyk Tryz.prog 8 = some ⟨.struct [(0,2),(1,3),(2,4),(3,6)],4,24,.agg [.v (.int .i64 0),.v (.int .i64 0),.v (.bool false),.v (.int .u8 0)]⟩ :=by kernel_rfl
@[go_sem] theorem tk9 : tyk Tryz.prog 9 = some ⟨.str,1,16,.v (.string ⟨#[]⟩)⟩ :=by kernel_rfl
@[go_sem] theorem tk10 : tyk Tryz.prog 10 = some ⟨.str,1,16,.v (.string ⟨#[]⟩)⟩ :=by kernel_rfl
@[go_sem] theorem tk11 : tyk Tryz.prog 11 = some ⟨.str,1,16,.v (.string ⟨#[]⟩)⟩ :=by kernel_rfl
@[go_sem] theorem tk12 : tyk Tryz.prog 12 = some ⟨.int .u64,1,8,.v (.int .u64 0)⟩ :=by kernel_rfl
@[go_sem] theorem tk13 : tyk Tryz.prog 13 = some ⟨.struct [(0,9),(1,12)],2,24,.agg [.v (.string ⟨#[]⟩),.v (.int .u64 0)]⟩ :=by kernel_rfl
@[go_sem] theorem tk14 : tyk Tryz.prog 14 = some ⟨.struct [(0,9),(1,12)],2,24,.agg [.v (.string ⟨#[]⟩),.v (.int .u64 0)]⟩ :=by kernel_rfl
@[go_sem] theorem tk15 : tyk Tryz.prog 15 = some ⟨.ptr,1,8,.v (.pointer none)⟩ :=by kernel_rfl
@[go_sem] theorem tk16 : tyk Tryz.prog 16 = some ⟨.ptr,1,8,.v (.pointer none)⟩ :=by kernel_rfl
@[go_sem] theorem tk17 : tyk Tryz.prog 17 = some ⟨.ptr,1,8,.v (.pointer none)⟩ :=by kernel_rfl
@[go_sem] theorem tk18 : tyk Tryz.prog 18 = some ⟨.struct [(0,17)],1,8,.agg [.v (.pointer none)]⟩ :=by kernel_rfl
@[go_sem] theorem tk19 : tyk Tryz.prog 19 = some ⟨.struct [(0,17)],1,8,.agg [.v (.pointer none)]⟩ :=by kernel_rfl
@[go_sem] theorem tk21 : tyk Tryz.prog 21 = some ⟨.int .i32,1,4,.v (.int .i32 0)⟩ :=by kernel_rfl
@[go_sem] theorem tk22 : tyk Tryz.prog 22 = some ⟨.slice 39,1,24,.nil⟩ :=by kernel_rfl
@[go_sem] theorem tk25 : tyk Tryz.prog 25 = some ⟨.slice 3,1,24,.nil⟩ :=by kernel_rfl
@[go_sem] theorem tk26 : tyk Tryz.prog 26 = some ⟨.int .i64,1,8,.v (.int .i64 0)⟩ :=by kernel_rfl
@[go_sem] theorem tk29 : tyk Tryz.prog 29 = some ⟨.slice 37,1,24,.nil⟩ :=by kernel_rfl
@[go_sem] theorem tk35 : tyk Tryz.prog 35 = some ⟨.struct [(0,3),(1,3)],2,16,.agg [.v (.int .i64 0),.v (.int .i64 0)]⟩ :=by kernel_rfl
@[go_sem] theorem tk36 : tyk Tryz.prog 36 = some ⟨.struct [(0,3),(1,3)],2,16,.agg [.v (.int .i64 0),.v (.int .i64 0)]⟩ :=by kernel_rfl
@[go_sem] theorem bk36 : bldOK Tryz.prog 36 = true :=by kernel_rfl
@[go_sem] theorem ek36 : eqOK Tryz.prog 36 = true :=by kernel_rfl
@[go_sem] theorem tk37 : tyk Tryz.prog 37 = some ⟨.slice 36,1,24,.nil⟩ :=by kernel_rfl
@[go_sem] theorem tk38 : tyk Tryz.prog 38 = some ⟨.struct [(0,3),(1,3),(2,3),(3,37),(4,25)],5,72,.agg [.v (.int .i64 0),.v (.int .i64 0),.v (.int .i64 0),.nil,.nil]⟩ :=by kernel_rfl
@[go_sem] theorem tk39 : tyk Tryz.prog 39 = some ⟨.struct [(0,3),(1,3),(2,3),(3,37),(4,25)],5,72,.agg [.v (.int .i64 0),.v (.int .i64 0),.v (.int .i64 0),.nil,.nil]⟩ :=by kernel_rfl
@[go_sem] theorem bk39 : bldOK Tryz.prog 39 = true :=by kernel_rfl
@[go_sem] theorem ek39 : eqOK Tryz.prog 39 = true :=by kernel_rfl
@[go_sem] theorem tk40 : tyk Tryz.prog 40 = some ⟨.slice 25,1,24,.nil⟩ :=by kernel_rfl
@[go_sem] theorem tk43 : tyk Tryz.prog 43 = some ⟨.slice 62,1,24,.nil⟩ :=by kernel_rfl
@[go_sem] theorem tk53 : tyk Tryz.prog 53 = some ⟨.ptr,1,8,.v (.pointer none)⟩ :=by kernel_rfl
@[go_sem] theorem tk54 : tyk Tryz.prog 54 = some ⟨.struct [(0,26)],1,8,.agg [.v (.int .i64 0)]⟩ :=by kernel_rfl
@[go_sem] theorem tk55 : tyk Tryz.prog 55 = some ⟨.struct [(0,26)],1,8,.agg [.v (.int .i64 0)]⟩ :=by kernel_rfl
@[go_sem] theorem bk55 : bldOK Tryz.prog 55 = true :=by kernel_rfl
@[go_sem] theorem ek55 : eqOK Tryz.prog 55 = true :=by kernel_rfl
@[go_sem] theorem tk57 : tyk Tryz.prog 57 = some ⟨.slice 43,1,24,.nil⟩ :=by kernel_rfl
@[go_sem] theorem tk59 : tyk Tryz.prog 59 = some ⟨.struct [(0,3),(1,25)],2,32,.agg [.v (.int .i64 0),.nil]⟩ :=by kernel_rfl
@[go_sem] theorem tk60 : tyk Tryz.prog 60 = some ⟨.struct [(0,3),(1,25)],2,32,.agg [.v (.int .i64 0),.nil]⟩ :=by kernel_rfl
@[go_sem] theorem bk60 : bldOK Tryz.prog 60 = true :=by kernel_rfl
@[go_sem] theorem ek60 : eqOK Tryz.prog 60 = true :=by kernel_rfl
@[go_sem] theorem tk61 : tyk Tryz.prog 61 = some ⟨.struct [(0,60),(2,60)],4,64,.agg [.v (.int .i64 0),.nil,.v (.int .i64 0),.nil]⟩ :=by kernel_rfl
@[go_sem] theorem tk62 : tyk Tryz.prog 62 = some ⟨.struct [(0,60),(2,60)],4,64,.agg [.v (.int .i64 0),.nil,.v (.int .i64 0),.nil]⟩ :=by kernel_rfl
@[go_sem] theorem bk62 : bldOK Tryz.prog 62 = true :=by kernel_rfl
@[go_sem] theorem ek62 : eqOK Tryz.prog 62 = true :=by kernel_rfl
@[go_sem] theorem tk76 : tyk Tryz.prog 76 = some ⟨.slice 4,1,24,.nil⟩ :=by kernel_rfl
@[go_sem] theorem tk91 : tyk Tryz.prog 91 = some ⟨.int .u64,1,8,.v (.int .u64 0)⟩ :=by kernel_rfl
@[go_sem] theorem tk113 : tyk Tryz.prog 113 = some ⟨.int .u64,1,8,.v (.int .u64 0)⟩ :=by kernel_rfl
@[go_sem] theorem tk119 : tyk Tryz.prog 119 = some ⟨.struct [(0,17),(1,17),(2,17),(3,9)],4,40,.agg [.v (.pointer none),.v (.pointer none),.v (.pointer none),.v (.string ⟨#[]⟩)]⟩ :=by kernel_rfl
@[go_sem] theorem tk120 : tyk Tryz.prog 120 = some ⟨.struct [(0,17),(1,17),(2,17),(3,9)],4,40,.agg [.v (.pointer none),.v (.pointer none),.v (.pointer none),.v (.string ⟨#[]⟩)]⟩ :=by kernel_rfl
@[go_sem] theorem tk121 : tyk Tryz.prog 121 = some ⟨.arr 0 16,0,0,.agg []⟩ :=by kernel_rfl
@[go_sem] theorem tk122 : tyk Tryz.prog 122 = some ⟨.struct [(0,121)],0,0,.agg []⟩ :=by kernel_rfl
@[go_sem] theorem tk123 : tyk Tryz.prog 123 = some ⟨.struct [(0,121)],0,0,.agg []⟩ :=by kernel_rfl
@[go_sem] theorem tk125 : tyk Tryz.prog 125 = some ⟨.int .u32,1,4,.v (.int .u32 0)⟩ :=by kernel_rfl
@[go_sem] theorem tk126 : tyk Tryz.prog 126 = some ⟨.int .u8,1,1,.v (.int .u8 0)⟩ :=by kernel_rfl
@[go_sem] theorem tk127 : tyk Tryz.prog 127 = some ⟨.int .u8,1,1,.v (.int .u8 0)⟩ :=by kernel_rfl
@[go_sem] theorem tk129 : tyk Tryz.prog 129 = some ⟨.ptr,1,8,.v (.pointer none)⟩ :=by kernel_rfl
@[go_sem] theorem tk130 : tyk Tryz.prog 130 = some ⟨.int .i32,1,4,.v (.int .i32 0)⟩ :=by kernel_rfl
@[go_sem] theorem tk131 : tyk Tryz.prog 131 = some ⟨.int .i32,1,4,.v (.int .i32 0)⟩ :=by kernel_rfl
@[go_sem] theorem tk132 : tyk Tryz.prog 132 = some ⟨.struct [(0,12),(1,12),(2,125),(3,126),(4,5),(5,5),(6,127),(7,128),(8,129),(9,130),(10,131)],11,48,.agg [.v (.int .u64 0),.v (.int .u64 0),.v (.int .u32 0),.v (.int .u8 0),.v (.int .u8 0),.v (.int .u8 0),.v (.int .u8 0),.v .nilFunc,.v (.pointer none),.v (.int .i32 0),.v (.int .i32 0)]⟩ :=by kernel_rfl
@[go_sem] theorem tk133 : tyk Tryz.prog 133 = some ⟨.struct [(0,12),(1,12),(2,125),(3,126),(4,5),(5,5),(6,127),(7,128),(8,129),(9,130),(10,131)],11,48,.agg [.v (.int .u64 0),.v (.int .u64 0),.v (.int .u32 0),.v (.int .u8 0),.v (.int .u8 0),.v (.int .u8 0),.v (.int .u8 0),.v .nilFunc,.v (.pointer none),.v (.int .i32 0),.v (.int .i32 0)]⟩ :=by kernel_rfl
@[go_sem] theorem cl3 : callable Tryz.prog 3 = true :=by kernel_rfl
@[go_sem] theorem cl4 : callable Tryz.prog 4 = true :=by kernel_rfl
@[go_sem] theorem cl5 : callable Tryz.prog 5 = true :=by kernel_rfl
@[go_sem] theorem cl6 : callable Tryz.prog 6 = true :=by kernel_rfl
@[go_sem] theorem cl7 : callable Tryz.prog 7 = true :=by kernel_rfl
@[go_sem] theorem cl8 : callable Tryz.prog 8 = true :=by kernel_rfl
@[go_sem] theorem cl9 : callable Tryz.prog 9 = true :=by kernel_rfl
@[go_sem] theorem cl10 : callable Tryz.prog 10 = true :=by kernel_rfl
@[go_sem] theorem cl11 : callable Tryz.prog 11 = true :=by kernel_rfl
@[go_sem] theorem cl12 : callable Tryz.prog 12 = true :=by kernel_rfl
@[go_sem] theorem cl13 : callable Tryz.prog 13 = true :=by kernel_rfl
@[go_sem] theorem cl14 : callable Tryz.prog 14 = true :=by kernel_rfl
@[go_sem] theorem cl15 : callable Tryz.prog 15 = true :=by kernel_rfl
@[go_sem] theorem cl16 : callable Tryz.prog 16 = true :=by kernel_rfl
@[go_sem] theorem cl17 : callable Tryz.prog 17 = true :=by kernel_rfl
@[go_sem] theorem cl18 : callable Tryz.prog 18 = true :=by kernel_rfl
@[go_sem] theorem cl19 : callable Tryz.prog 19 = true :=by kernel_rfl
@[go_sem] theorem cl20 : callable Tryz.prog 20 = true :=by kernel_rfl
@[go_sem] theorem cl21 : callable Tryz.prog 21 = true :=by kernel_rfl
@[go_sem] theorem cl22 : callable Tryz.prog 22 = true :=by kernel_rfl
@[go_sem] theorem cl23 : callable Tryz.prog 23 = true :=by kernel_rfl
@[go_sem] theorem cl24 : callable Tryz.prog 24 = true :=by kernel_rfl
@[go_sem] theorem cl25 : callable Tryz.prog 25 = true :=by kernel_rfl
@[go_sem] theorem cl26 : callable Tryz.prog 26 = true :=by kernel_rfl
@[go_sem] theorem cl27 : callable Tryz.prog 27 = true :=by kernel_rfl
@[go_sem] theorem cl28 : callable Tryz.prog 28 = true :=by kernel_rfl
@[go_sem] theorem cl29 : callable Tryz.prog 29 = true :=by kernel_rfl
@[go_sem] theorem cl30 : callable Tryz.prog 30 = true :=by kernel_rfl
@[go_sem] theorem cl31 : callable Tryz.prog 31 = true :=by kernel_rfl
@[go_sem] theorem cl32 : callable Tryz.prog 32 = true :=by kernel_rfl
@[go_sem] theorem cl33 : callable Tryz.prog 33 = true :=by kernel_rfl
@[go_sem] theorem cl34 : callable Tryz.prog 34 = true :=by kernel_rfl
@[go_sem] theorem cl35 : callable Tryz.prog 35 = true :=by kernel_rfl
@[go_sem] theorem cl36 : callable Tryz.prog 36 = true :=by kernel_rfl
@[go_sem] theorem cl37 : callable Tryz.prog 37 = true :=by kernel_rfl
@[go_sem] theorem cl38 : callable Tryz.prog 38 = true :=by kernel_rfl
@[go_sem] theorem cl39 : callable Tryz.prog 39 = true :=by kernel_rfl
@[go_sem] theorem cl40 : callable Tryz.prog 40 = true :=by kernel_rfl
@[go_sem] theorem cl41 : callable Tryz.prog 41 = true :=by kernel_rfl
@[go_sem] theorem cl42 : callable Tryz.prog 42 = true :=by kernel_rfl
@[go_sem] theorem cl43 : callable Tryz.prog 43 = true :=by kernel_rfl
@[go_sem] theorem cl44 : callable Tryz.prog 44 = true :=by kernel_rfl
@[go_sem] theorem cl45 : callable Tryz.prog 45 = true :=by kernel_rfl
@[go_sem] theorem cl46 : callable Tryz.prog 46 = true :=by kernel_rfl
@[go_sem] theorem cl47 : callable Tryz.prog 47 = true :=by kernel_rfl
@[go_sem] theorem cl48 : callable Tryz.prog 48 = true :=by kernel_rfl
@[go_sem] theorem cl49 : callable Tryz.prog 49 = true :=by kernel_rfl
@[go_sem] theorem cl50 : callable Tryz.prog 50 = true :=by kernel_rfl
@[go_sem] theorem cl51 : callable Tryz.prog 51 = true :=by kernel_rfl
@[go_sem] theorem cl52 : callable Tryz.prog 52 = true :=by kernel_rfl
@[go_sem] theorem cl53 : callable Tryz.prog 53 = true :=by kernel_rfl
@[go_sem] theorem cl54 : callable Tryz.prog 54 = true :=by kernel_rfl
@[go_sem] theorem cl55 : callable Tryz.prog 55 = true :=by kernel_rfl
@[go_sem] theorem cl56 : callable Tryz.prog 56 = true :=by kernel_rfl
@[go_sem] theorem cl57 : callable Tryz.prog 57 = true :=by kernel_rfl
@[go_sem] theorem cl58 : callable Tryz.prog 58 = true :=by kernel_rfl
@[go_sem] theorem cl59 : callable Tryz.prog 59 = true :=by kernel_rfl
@[go_sem] theorem cl60 : callable Tryz.prog 60 = true :=by kernel_rfl
@[go_sem] theorem cl61 : callable Tryz.prog 61 = true :=by kernel_rfl
@[go_sem] theorem cl62 : callable Tryz.prog 62 = true :=by kernel_rfl
@[go_sem] theorem cl63 : callable Tryz.prog 63 = true :=by kernel_rfl
@[go_sem] theorem cl64 : callable Tryz.prog 64 = true :=by kernel_rfl
@[go_sem] theorem cl65 : callable Tryz.prog 65 = true :=by kernel_rfl
@[go_sem] theorem cl66 : callable Tryz.prog 66 = true :=by kernel_rfl
@[go_sem] theorem cl67 : callable Tryz.prog 67 = true :=by kernel_rfl
@[go_sem] theorem cl68 : callable Tryz.prog 68 = true :=by kernel_rfl
@[go_sem] theorem cl69 : callable Tryz.prog 69 = true :=by kernel_rfl
@[go_sem] theorem cl70 : callable Tryz.prog 70 = true :=by kernel_rfl
@[go_sem] theorem cl71 : callable Tryz.prog 71 = true :=by kernel_rfl
@[go_sem] theorem cl72 : callable Tryz.prog 72 = true :=by kernel_rfl
@[go_sem] theorem cl73 : callable Tryz.prog 73 = true :=by kernel_rfl
@[go_sem] theorem cl74 : callable Tryz.prog 74 = true :=by kernel_rfl
@[go_sem] theorem cl75 : callable Tryz.prog 75 = true :=by kernel_rfl
@[go_sem] theorem cl76 : callable Tryz.prog 76 = true :=by kernel_rfl
@[go_sem] theorem cl77 : callable Tryz.prog 77 = true :=by kernel_rfl
@[go_sem] theorem cl78 : callable Tryz.prog 78 = true :=by kernel_rfl
@[go_sem] theorem cl79 : callable Tryz.prog 79 = true :=by kernel_rfl
@[go_sem] theorem cl80 : callable Tryz.prog 80 = true :=by kernel_rfl
@[go_sem] theorem cl81 : callable Tryz.prog 81 = true :=by kernel_rfl
@[go_sem] theorem cl82 : callable Tryz.prog 82 = true :=by kernel_rfl
@[go_sem] theorem cl83 : callable Tryz.prog 83 = true :=by kernel_rfl
@[go_sem] theorem cl84 : callable Tryz.prog 84 = true :=by kernel_rfl
@[go_sem] theorem cl85 : callable Tryz.prog 85 = true :=by kernel_rfl
@[go_sem] theorem cl86 : callable Tryz.prog 86 = true :=by kernel_rfl
@[go_sem] theorem cl87 : callable Tryz.prog 87 = true :=by kernel_rfl
@[go_sem] theorem cl88 : callable Tryz.prog 88 = true :=by kernel_rfl
@[go_sem] theorem cl89 : callable Tryz.prog 89 = true :=by kernel_rfl
@[go_sem] theorem cl90 : callable Tryz.prog 90 = true :=by kernel_rfl
@[go_sem] theorem cl91 : callable Tryz.prog 91 = true :=by kernel_rfl
@[go_sem] theorem cl92 : callable Tryz.prog 92 = true :=by kernel_rfl
@[go_sem] theorem cl93 : callable Tryz.prog 93 = true :=by kernel_rfl
@[go_sem] theorem cl94 : callable Tryz.prog 94 = true :=by kernel_rfl
@[go_sem] theorem cl95 : callable Tryz.prog 95 = true :=by kernel_rfl
@[go_sem] theorem cl96 : callable Tryz.prog 96 = true :=by kernel_rfl
@[go_sem] theorem cl97 : callable Tryz.prog 97 = true :=by kernel_rfl
@[go_sem] theorem cl98 : callable Tryz.prog 98 = true :=by kernel_rfl
@[go_sem] theorem cl99 : callable Tryz.prog 99 = true :=by kernel_rfl
@[go_sem] theorem cl100 : callable Tryz.prog 100 = true :=by kernel_rfl
@[go_sem] theorem cl101 : callable Tryz.prog 101 = true :=by kernel_rfl
@[go_sem] theorem cl102 : callable Tryz.prog 102 = true :=by kernel_rfl
@[go_sem] theorem cl103 : callable Tryz.prog 103 = true :=by kernel_rfl
@[go_sem] theorem cl104 : callable Tryz.prog 104 = true :=by kernel_rfl
@[go_sem] theorem cl105 : callable Tryz.prog 105 = true :=by kernel_rfl
@[go_sem] theorem cl106 : callable Tryz.prog 106 = true :=by kernel_rfl
@[go_sem] theorem cl107 : callable Tryz.prog 107 = true :=by kernel_rfl
@[go_sem] theorem cl108 : callable Tryz.prog 108 = true :=by kernel_rfl
@[go_sem] theorem cl109 : callable Tryz.prog 109 = true :=by kernel_rfl
@[go_sem] theorem cl110 : callable Tryz.prog 110 = true :=by kernel_rfl
@[go_sem] theorem cl111 : callable Tryz.prog 111 = true :=by kernel_rfl
@[go_sem] theorem cl112 : callable Tryz.prog 112 = true :=by kernel_rfl
@[go_sem] theorem cl113 : callable Tryz.prog 113 = true :=by kernel_rfl
@[go_sem] theorem cl114 : callable Tryz.prog 114 = true :=by kernel_rfl
@[go_sem] theorem cl115 : callable Tryz.prog 115 = true :=by kernel_rfl
@[go_sem] theorem cl116 : callable Tryz.prog 116 = true :=by kernel_rfl
@[go_sem] theorem cl117 : callable Tryz.prog 117 = true :=by kernel_rfl
@[go_sem] theorem cl118 : callable Tryz.prog 118 = true :=by kernel_rfl
@[go_sem] theorem cl119 : callable Tryz.prog 119 = true :=by kernel_rfl
@[go_sem] theorem cl120 : callable Tryz.prog 120 = true :=by kernel_rfl
@[go_sem] theorem cl121 : callable Tryz.prog 121 = true :=by kernel_rfl
@[go_sem] theorem cl122 : callable Tryz.prog 122 = true :=by kernel_rfl
@[go_sem] theorem cl123 : callable Tryz.prog 123 = true :=by kernel_rfl
@[go_sem] theorem cl124 : callable Tryz.prog 124 = true :=by kernel_rfl
@[go_sem] theorem cl125 : callable Tryz.prog 125 = true :=by kernel_rfl
@[go_sem] theorem cl126 : callable Tryz.prog 126 = true :=by kernel_rfl
@[go_sem] theorem cl127 : callable Tryz.prog 127 = true :=by kernel_rfl
@[go_sem] theorem cl128 : callable Tryz.prog 128 = true :=by kernel_rfl
end Go.Proofs.YtknbcehhjffndaaGreat

