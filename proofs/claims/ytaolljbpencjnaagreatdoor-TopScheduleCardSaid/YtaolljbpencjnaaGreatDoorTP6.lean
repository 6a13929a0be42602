/-
  Lemmas for the statement at the top.
-/
import Derived.Test.YtaolljbpencjnaaGreatDoorTFw4
import Derived.Test.YtaolljbpencjnaaGreatDoorProg
import Derived.KernelRfl
import Derived.Test.YtaolljbpencjnaaGreatDoorTP5
set_option linter.all false
namespace Go.Ab
def q13x0 : List Nat :=[0,2,3,4,5,6,7,9,10,20,24,38,43,44,45,49]
def q13x1 : List Nat :=[0,2,3,4,5,6,7,8,11,21,35]
def q13x2 : List Nat :=[0,2,3,4,5,28,30,31,32,44]
def q13x3 : List Nat :=[0,1,4,5,16]
attribute [go_sem] q13x0 q13x1 q13x2 q13x3
end Go.Ab
namespace Go.Proofs.YtaolljbpencjnaaGreatDoor
open Go.Ab
@[go_sem] theorem tk2 : tyk Tryz.prog 2 = some ⟨.int .i64,1,8,.v (.int .i64 0)⟩ :=by kernel_rfl
@[go_sem] theorem tk3 : tyk Tryz.prog 3 = some ⟨.int .i64,1,8,.v (.int .i64 0)⟩ :=by kernel_rfl
@[go_sem] theorem tk4 : tyk Tryz.prog 4 = some ⟨.bool,1,1,.v (.bool false)⟩ :=by kernel_rfl
@[go_sem] theorem tk5 : tyk Tryz.prog 5 = some ⟨.int .u8,1,1,.v (.int .u8 0)⟩ :=by kernel_rfl
@[go_sem] theorem tk6 : tyk Tryz.prog 6 = some ⟨.int .u8,1,1,.v (.int .u8 0)⟩ :=by kernel_rfl
@[go_sem] theorem tk7 : tyk Tryz.prog 7 = some ⟨.struct [(0,2),(1,3),(2,4),(3,6)],4,24,.agg [.v (.int .i64 0),.v (.int .i64 0),.v (.bool false),.v (.int .u8 0)]⟩ :=by kernel_rfl
@[go_sem] theorem tk8 : tyk Tryz.prog 8 = some ⟨.struct [(0,2),(1,3),(2,4),(3,6)],4,24,.agg [.v (.int .i64 0),.v (.int .i64 0),.v (.bool false),.v (.int .u8 0)]⟩ :=by kernel_rfl
@[go_sem] theorem tk9 : tyk Tryz.prog 9 = some ⟨.str,1,16,.v (.string ⟨#[]⟩)⟩ :=by kernel_rfl
@[go_sem] theorem tk10 : tyk Tryz.prog 10 = some ⟨.str,1,16,.v (.string ⟨#[]⟩)⟩ :=by kernel_rfl
@[go_sem] theorem tk11 : tyk Tryz.prog 11 = some ⟨.str,1,16,.v (.string ⟨#[]⟩)⟩ :=by kernel_rfl
@[go_sem] theorem tk12 : tyk Tryz.prog 12 = some ⟨.int .u64,1,8,.v (.int .u64 0)⟩ :=by kernel_rfl
@[go_sem] theorem tk13 : tyk Tryz.prog 13 = some ⟨.struct [(0,9),(1,12)],2,24,.agg [.v (.string ⟨#[]⟩),.v (.int .u64 0)]⟩ :=by kernel_rfl
@[go_sem] theorem tk14 : tyk Tryz.prog 14 = some ⟨.struct [(0,9),(1,12)],2,24,.agg [.v (.string ⟨#[]⟩),.v (.int .u64 0)]⟩ :=by kernel_rfl
@[go_sem] theorem tk15 : tyk Tryz.prog 15 = some ⟨.ptr,1,8,.v (.pointer none)⟩ :=by kernel_rfl
@[go_sem] theorem tk16 : tyk Tryz.prog 16 = some ⟨.ptr,1,8,.v (.pointer none)⟩ :=by kernel_rfl
@[go_sem] theorem tk17 : tyk Tryz.prog 17 = some ⟨.ptr,1,8,.v (.pointer none)⟩ :=by kernel_rfl
@[go_sem] theorem tk18 : tyk Tryz.prog 18 = some ⟨.struct [(0,17)],1,8,.agg [.v (.pointer none)]⟩ :=by kernel_rfl
@[go_sem] theorem tk19 : tyk Tryz.prog 19 = some ⟨.struct [(0,17)],1,8,.agg [.v (.pointer none)]⟩ :=by kernel_rfl
@[go_sem] theorem tk21 : tyk Tryz.prog 21 = some ⟨.int .i32,1,4,.v (.int .i32 0)⟩ :=by kernel_rfl
@[go_sem] theorem tk24 : tyk Tryz.prog 24 = some ⟨.int .i64,1,8,.v (.int .i64 0)⟩ :=by kernel_rfl
@[go_sem] theorem tk26 : tyk Tryz.prog 26 = some ⟨.slice 93,1,24,.nil⟩ :=by kernel_rfl
@[go_sem] theorem tk27 : tyk Tryz.prog 27 = some ⟨.slice 29,1,24,.nil⟩ :=by kernel_rfl
@[go_sem] theorem tk28 : tyk Tryz.prog 28 = some ⟨.struct [(0,3),(1,3),(2,3),(3,9),(4,27)],5,64,.agg [.v (.int .i64 0),.v (.int .i64 0),.v (.int .i64 0),.v (.string ⟨#[]⟩),.nil]⟩ :=by kernel_rfl
@[go_sem] theorem E4 : tyk Tryz.prog 29 = some ⟨.struct [(0,3),(1,3),(2,3),(3,9),(4,27)],5,64,.agg [.v (.int .i64 0),.v (.int .i64 0),.v (.int .i64 0),.v (.string ⟨#[]⟩),.nil]⟩ :=by kernel_rfl
@[go_sem] theorem bk29 : bldOK Tryz.prog 29 = true :=by kernel_rfl
@[go_sem] theorem ek29 : eqOK Tryz.prog 29 = true :=by kernel_rfl
@[go_sem] theorem tk30 : tyk Tryz.prog 30 = some ⟨.struct [(0,3),(1,3),(2,3),(3,3),(4,3),(5,3),(6,4),(7,3),(8,3),(9,3),(10,3),(11,26),(12,29),(17,29),(22,29),(27,29),(32,29)],37,432,.agg [.v (.int .i64 0),.v (.int .i64 0),.v (.int .i64 0),.v (.int .i64 0),.v (.int .i64 0),.v (.int .i64 0),.v (.bool false),.v (.int .i64 0),.v (.int .i64 0),.v (.int .i64 0),.v (.int .i64 0),.nil,.v (.int .i64 0),.v (.int .i64 0),.v (.int .i64 0),.v (.string ⟨#[]⟩),.nil,.v (.int .i64 0),.v (.int .i64 0),.v (.int .i64 0),.v (.string ⟨#[]⟩),.nil,.v (.int .i64 0),.v (.int .i64 0),.v (.int .i64 0),.v (.string ⟨#[]⟩),.nil,.v (.int .i64 0),.v (.int .i64 0),.v (.int .i64 0),.v (.string ⟨#[]⟩),.nil,.v (.int .i64 0),.v (.int .i64 0),.v (.int .i64 0),.v (.string ⟨#[]⟩),.nil]⟩ :=by kernel_rfl
@[go_sem] theorem tk31 : tyk Tryz.prog 31 = some ⟨.struct [(0,3),(1,3),(2,3),(3,3),(4,3),(5,3),(6,4),(7,3),(8,3),(9,3),(10,3),(11,26),(12,29),(17,29),(22,29),(27,29),(32,29)],37,432,.agg [.v (.int .i64 0),.v (.int .i64 0),.v (.int .i64 0),.v (.int .i64 0),.v (.int .i64 0),.v (.int .i64 0),.v (.bool false),.v (.int .i64 0),.v (.int .i64 0),.v (.int .i64 0),.v (.int .i64 0),.nil,.v (.int .i64 0),.v (.int .i64 0),.v (.int .i64 0),.v (.string ⟨#[]⟩),.nil,.v (.int .i64 0),.v (.int .i64 0),.v (.int .i64 0),.v (.string ⟨#[]⟩),.nil,.v (.int .i64 0),.v (.int .i64 0),.v (.int .i64 0),.v (.string ⟨#[]⟩),.nil,.v (.int .i64 0),.v (.int .i64 0),.v (.int .i64 0),.v (.string ⟨#[]⟩),.nil,.v (.int .i64 0),.v (.int .i64 0),.v (.int .i64 0),.v (.string ⟨#[]⟩),.nil]⟩ :=by kernel_rfl
@[go_sem] theorem bk31 : bldOK Tryz.prog 31 = true :=by kernel_rfl
@[go_sem] theorem ek31 : eqOK Tryz.prog 31 = true :=by kernel_rfl
@[go_sem] theorem tk38 : tyk Tryz.prog 38 = some ⟨.slice 66,1,24,.nil⟩ :=by kernel_rfl
@[go_sem] theorem tk40 : tyk Tryz.prog 40 = some ⟨.slice 3,1,24,.nil⟩ :=by kernel_rfl
@[go_sem] theorem tk43 : tyk Tryz.prog 43 = some ⟨.slice 61,1,24,.nil⟩ :=by kernel_rfl
@[go_sem] theorem tk46 : tyk Tryz.prog 46 = some ⟨.struct [(0,3),(1,3),(2,40),(3,3),(4,3)],5,56,.agg [.v (.int .i64 0),.v (.int .i64 0),.nil,.v (.int .i64 0),.v (.int .i64 0)]⟩ :=by kernel_rfl
@[go_sem] theorem tk47 : tyk Tryz.prog 47 = some ⟨.struct [(0,3),(1,3),(2,40),(3,3),(4,3)],5,56,.agg [.v (.int .i64 0),.v (.int .i64 0),.nil,.v (.int .i64 0),.v (.int .i64 0)]⟩ :=by kernel_rfl
@[go_sem] theorem bk47 : bldOK Tryz.prog 47 = true :=by kernel_rfl
@[go_sem] theorem ek47 : eqOK Tryz.prog 47 = true :=by kernel_rfl
@[go_sem] theorem tk48 : tyk Tryz.prog 48 = some ⟨.struct [(0,3),(1,3),(2,3),(3,3),(4,3),(5,3),(6,3),(7,40),(8,40),(9,3),(10,3),(11,3)],12,128,.agg [.v (.int .i64 0),.v (.int .i64 0),.v (.int .i64 0),.v (.int .i64 0),.v (.int .i64 0),.v (.int .i64 0),.v (.int .i64 0),.nil,.nil,.v (.int .i64 0),.v (.int .i64 0),.v (.int .i64 0)]⟩ :=by kernel_rfl
@[go_sem] theorem tk49 : tyk Tryz.prog 49 = some ⟨.struct [(0,3),(1,3),(2,3),(3,3),(4,3),(5,3),(6,3),(7,40),(8,40),(9,3),(10,3),(11,3)],12,128,.agg [.v (.int .i64 0),.v (.int .i64 0),.v (.int .i64 0),.v (.int .i64 0),.v (.int .i64 0),.v (.int .i64 0),.v (.int .i64 0),.nil,.nil,.v (.int .i64 0),.v (.int .i64 0),.v (.int .i64 0)]⟩ :=by kernel_rfl
@[go_sem] theorem bk49 : bldOK Tryz.prog 49 = true :=by kernel_rfl
@[go_sem] theorem ek49 : eqOK Tryz.prog 49 = true :=by kernel_rfl
@[go_sem] theorem tk52 : tyk Tryz.prog 52 = some ⟨.slice 177,1,24,.nil⟩ :=by kernel_rfl
@[go_sem] theorem tk53 : tyk Tryz.prog 53 = some ⟨.struct [(0,3),(1,3),(2,3),(3,40),(4,3),(5,3),(6,3),(7,3),(8,3),(9,3),(10,40),(11,52),(12,9)],13,160,.agg [.v (.int .i64 0),.v (.int .i64 0),.v (.int .i64 0),.nil,.v (.int .i64 0),.v (.int .i64 0),.v (.int .i64 0),.v (.int .i64 0),.v (.int .i64 0),.v (.int .i64 0),.nil,.nil,.v (.string ⟨#[]⟩)]⟩ :=by kernel_rfl
@[go_sem] theorem tk54 : tyk Tryz.prog 54 = some ⟨.struct [(0,3),(1,3),(2,3),(3,40),(4,3),(5,3),(6,3),(7,3),(8,3),(9,3),(10,40),(11,52),(12,9)],13,160,.agg [.v (.int .i64 0),.v (.int .i64 0),.v (.int .i64 0),.nil,.v (.int .i64 0),.v (.int .i64 0),.v (.int .i64 0),.v (.int .i64 0),.v (.int .i64 0),.v (.int .i64 0),.nil,.nil,.v (.string ⟨#[]⟩)]⟩ :=by kernel_rfl
@[go_sem] theorem bk54 : bldOK Tryz.prog 54 = true :=by kernel_rfl
@[go_sem] theorem ek54 : eqOK Tryz.prog 54 = true :=by kernel_rfl
@[go_sem] theorem tk57 : tyk Tryz.prog 57 = some ⟨.struct [(0,3),(1,3),(2,4),(3,3)],4,32,.agg [.v (.int .i64 0),.v (.int .i64 0),.v (.bool false),.v (.int .i64 0)]⟩ :=by kernel_rfl
@[go_sem] theorem tk58 : tyk Tryz.prog 58 = some ⟨.struct [(0,3),(1,3),(2,4),(3,3)],4,32,.agg [.v (.int .i64 0),.v (.int .i64 0),.v (.bool false),.v (.int .i64 0)]⟩ :=by kernel_rfl
@[go_sem] theorem bk58 : bldOK Tryz.prog 58 = true :=by kernel_rfl
@[go_sem] theorem ek58 : eqOK Tryz.prog 58 = true :=by kernel_rfl
@[go_sem] theorem tk59 : tyk Tryz.prog 59 = some ⟨.slice 58,1,24,.nil⟩ :=by kernel_rfl
@[go_sem] theorem tk60 : tyk Tryz.prog 60 = some ⟨.struct [(0,3),(1,3),(2,3),(3,3),(4,3),(5,3)],6,48,.agg [.v (.int .i64 0),.v (.int .i64 0),.v (.int .i64 0),.v (.int .i64 0),.v (.int .i64 0),.v (.int .i64 0)]⟩ :=by kernel_rfl
@[go_sem] theorem tk61 : tyk Tryz.prog 61 = some ⟨.struct [(0,3),(1,3),(2,3),(3,3),(4,3),(5,3)],6,48,.agg [.v (.int .i64 0),.v (.int .i64 0),.v (.int .i64 0),.v (.int .i64 0),.v (.int .i64 0),.v (.int .i64 0)]⟩ :=by kernel_rfl
@[go_sem] theorem bk61 : bldOK Tryz.prog 61 = true :=by kernel_rfl
@[go_sem] theorem ek61 : eqOK Tryz.prog 61 = true :=by kernel_rfl
@[go_sem] theorem tk65 : tyk Tryz.prog 65 = some ⟨.struct [(0,3),(1,3),(2,3)],3,24,.agg [.v (.int .i64 0),.v (.int .i64 0),.v (.int .i64 0)]⟩ :=by kernel_rfl
@[go_sem] theorem tk66 : tyk Tryz.prog 66 = some ⟨.struct [(0,3),(1,3),(2,3)],3,24,.agg [.v (.int .i64 0),.v (.int .i64 0),.v (.int .i64 0)]⟩ :=by kernel_rfl
@[go_sem] theorem bk66 : bldOK Tryz.prog 66 = true :=by kernel_rfl
@[go_sem] theorem ek66 : eqOK Tryz.prog 66 = true :=by kernel_rfl
@[go_sem] theorem tk69 : tyk Tryz.prog 69 = some ⟨.ptr,1,8,.v (.pointer none)⟩ :=by kernel_rfl
@[go_sem] theorem tk73 : tyk Tryz.prog 73 = some ⟨.ptr,1,8,.v (.pointer none)⟩ :=by kernel_rfl
@[go_sem] theorem tk74 : tyk Tryz.prog 74 = some ⟨.ptr,1,8,.v (.pointer none)⟩ :=by kernel_rfl
@[go_sem] theorem tk82 : tyk Tryz.prog 82 = some ⟨.slice 169,1,24,.nil⟩ :=by kernel_rfl
@[go_sem] theorem tk84 : tyk Tryz.prog 84 = some ⟨.struct [(0,31),(37,3),(38,3),(39,47),(44,82),(45,3)],46,536,.agg [.v (.int .i64 0),.v (.int .i64 0),.v (.int .i64 0),.v (.int .i64 0),.v (.int .i64 0),.v (.int .i64 0),.v (.bool false),.v (.int .i64 0),.v (.int .i64 0),.v (.int .i64 0),.v (.int .i64 0),.nil,.v (.int .i64 0),.v (.int .i64 0),.v (.int .i64 0),.v (.string ⟨#[]⟩),.nil,.v (.int .i64 0),.v (.int .i64 0),.v (.int .i64 0),.v (.string ⟨#[]⟩),.nil,.v (.int .i64 0),.v (.int .i64 0),.v (.int .i64 0),.v (.string ⟨#[]⟩),.nil,.v (.int .i64 0),.v (.int .i64 0),.v (.int .i64 0),.v (.string ⟨#[]⟩),.nil,.v (.int .i64 0),.v (.int .i64 0),.v (.int .i64 0),.v (.string ⟨#[]⟩),.nil,.v (.int .i64 0),.v (.int .i64 0),.v (.int .i64 0),.v (.int .i64 0),.nil,.v (.int .i64 0),.v (.int .i64 0),.nil,.v (.int .i64 0)]⟩ :=by kernel_rfl
@[go_sem] theorem tk85 : tyk Tryz.prog 85 = some ⟨.struct [(0,31),(37,3),(38,3),(39,47),(44,82),(45,3)],46,536,.agg [.v (.int .i64 0),.v (.int .i64 0),.v (.int .i64 0),.v (.int .i64 0),.v (.int .i64 0),.v (.int .i64 0),.v (.bool false),.v (.int .i64 0),.v (.int .i64 0),.v (.int .i64 0),.v (.int .i64 0),.nil,.v (.int .i64 0),.v (.int .i64 0),.v (.int .i64 0),.v (.string ⟨#[]⟩),.nil,.v (.int .i64 0),.v (.int .i64 0),.v (.int .i64 0),.v (.string ⟨#[]⟩),.nil,.v (.int .i64 0),.v (.int .i64 0),.v (.int .i64 0),.v (.string ⟨#[]⟩),.nil,.v (.int .i64 0),.v (.int .i64 0),.v (.int .i64 0),.v (.string ⟨#[]⟩),.nil,.v (.int .i64 0),.v (.int .i64 0),.v (.int .i64 0),.v (.string ⟨#[]⟩),.nil,.v (.int .i64 0),.v (.int .i64 0),.v (.int .i64 0),.v (.int .i64 0),.nil,.v (.int .i64 0),.v (.int .i64 0),.nil,.v (.int .i64 0)]⟩ :=by kernel_rfl
@[go_sem] theorem bk85 : bldOK Tryz.prog 85 = true :=by kernel_rfl
@[go_sem] theorem ek85 : eqOK Tryz.prog 85 = true :=by kernel_rfl
@[go_sem] theorem tk92 : tyk Tryz.prog 92 = some ⟨.struct [(0,9),(1,29)],6,80,.agg [.v (.string ⟨#[]⟩),.v (.int .i64 0),.v (.int .i64 0),.v (.int .i64 0),.v (.string ⟨#[]⟩),.nil]⟩ :=by kernel_rfl
@[go_sem] theorem tk93 : tyk Tryz.prog 93 = some ⟨.struct [(0,9),(1,29)],6,80,.agg [.v (.string ⟨#[]⟩),.v (.int .i64 0),.v (.int .i64 0),.v (.int .i64 0),.v (.string ⟨#[]⟩),.nil]⟩ :=by kernel_rfl
@[go_sem] theorem bk93 : bldOK Tryz.prog 93 = true :=by kernel_rfl
@[go_sem] theorem ek93 : eqOK Tryz.prog 93 = true :=by kernel_rfl
@[go_sem] theorem tk96 : tyk Tryz.prog 96 = some ⟨.slice 9,1,24,.nil⟩ :=by kernel_rfl
@[go_sem] theorem tk97 : tyk Tryz.prog 97 = some ⟨.map 9 100,1,8,.v (.map none)⟩ :=by kernel_rfl
@[go_sem] theorem DW : tyk Tryz.prog 100 = some ⟨.slice 103,1,24,.nil⟩ :=by kernel_rfl
@[go_sem] theorem tk102 : tyk Tryz.prog 102 = some ⟨.struct [(0,9),(1,3),(2,3)],3,32,.agg [.v (.string ⟨#[]⟩),.v (.int .i64 0),.v (.int .i64 0)]⟩ :=by kernel_rfl
@[go_sem] theorem tk103 : tyk Tryz.prog 103 = some ⟨.struct [(0,9),(1,3),(2,3)],3,32,.agg [.v (.string ⟨#[]⟩),.v (.int .i64 0),.v (.int .i64 0)]⟩ :=by kernel_rfl
@[go_sem] theorem bk103 : bldOK Tryz.prog 103 = true :=by kernel_rfl
@[go_sem] theorem ek103 : eqOK Tryz.prog 103 = true :=by kernel_rfl
@[go_sem] theorem tk106 : tyk Tryz.prog 106 = some ⟨.ptr,1,8,.v (.pointer none)⟩ :=by kernel_rfl
@[go_sem] theorem tk110 : tyk Tryz.prog 110 = some ⟨.slice 40,1,24,.nil⟩ :=by kernel_rfl
@[go_sem] theorem tk111 : tyk Tryz.prog 111 = some ⟨.slice 4,1,24,.nil⟩ :=by kernel_rfl
@[go_sem] theorem tk112 : tyk Tryz.prog 112 = some ⟨.struct [(0,38),(1,110),(2,40),(3,40),(4,111)],5,120,.agg [.nil,.nil,.nil,.nil,.nil]⟩ :=by kernel_rfl
@[go_sem] theorem tk113 : tyk Tryz.prog 113 = some ⟨.struct [(0,38),(1,110),(2,40),(3,40),(4,111)],5,120,.agg [.nil,.nil,.nil,.nil,.nil]⟩ :=by kernel_rfl
@[go_sem] theorem bk113 : bldOK Tryz.prog 113 = true :=by kernel_rfl
@[go_sem] theorem ek113 : eqOK Tryz.prog 113 = true :=by kernel_rfl
@[go_sem] theorem tk115 : tyk Tryz.prog 115 = some ⟨.slice 129,1,24,.nil⟩ :=by kernel_rfl
@[go_sem] theorem tk118 : tyk Tryz.prog 118 = some ⟨.struct [(0,115),(1,3)],2,32,.agg [.nil,.v (.int .i64 0)]⟩ :=by kernel_rfl
@[go_sem] theorem tk119 : tyk Tryz.prog 119 = some ⟨.struct [(0,115),(1,3)],2,32,.agg [.nil,.v (.int .i64 0)]⟩ :=by kernel_rfl
@[go_sem] theorem bk119 : bldOK Tryz.prog 119 = true :=by kernel_rfl
@[go_sem] theorem ek119 : eqOK Tryz.prog 119 = true :=by kernel_rfl
@[go_sem] theorem tk120 : tyk Tryz.prog 120 = some ⟨.struct [(0,3),(1,24)],2,16,.agg [.v (.int .i64 0),.v (.int .i64 0)]⟩ :=by kernel_rfl
@[go_sem] theorem tk121 : tyk Tryz.prog 121 = some ⟨.struct [(0,3),(1,24)],2,16,.agg [.v (.int .i64 0),.v (.int .i64 0)]⟩ :=by kernel_rfl
@[go_sem] theorem bk121 : bldOK Tryz.prog 121 = true :=by kernel_rfl
@[go_sem] theorem ek121 : eqOK Tryz.prog 121 = true :=by kernel_rfl
@[go_sem] theorem tk128 : tyk Tryz.prog 128 = some ⟨.struct [(0,3),(1,9),(2,3),(3,3)],4,40,.agg [.v (.int .i64 0),.v (.string ⟨#[]⟩),.v (.int .i64 0),.v (.int .i64 0)]⟩ :=by kernel_rfl
@[go_sem] theorem tk129 : tyk Tryz.prog 129 = some ⟨.struct [(0,3),(1,9),(2,3),(3,3)],4,40,.agg [.v (.int .i64 0),.v (.string ⟨#[]⟩),.v (.int .i64 0),.v (.int .i64 0)]⟩ :=by kernel_rfl
@[go_sem] theorem bk129 : bldOK Tryz.prog 129 = true :=by kernel_rfl
@[go_sem] theorem ek129 : eqOK Tryz.prog 129 = true :=by kernel_rfl
@[go_sem] theorem tk150 : tyk Tryz.prog 150 = some ⟨.ptr,1,8,.v (.pointer none)⟩ :=by kernel_rfl
@[go_sem] theorem tk168 : tyk Tryz.prog 168 = some ⟨.struct [(0,3),(1,3),(2,3),(3,3),(4,3)],5,40,.agg [.v (.int .i64 0),.v (.int .i64 0),.v (.int .i64 0),.v (.int .i64 0),.v (.int .i64 0)]⟩ :=by kernel_rfl
@[go_sem] theorem tk169 : tyk Tryz.prog 169 = some ⟨.struct [(0,3),(1,3),(2,3),(3,3),(4,3)],5,40,.agg [.v (.int .i64 0),.v (.int .i64 0),.v (.int .i64 0),.v (.int .i64 0),.v (.int .i64 0)]⟩ :=by kernel_rfl
@[go_sem] theorem bk169 : bldOK Tryz.prog 169 = true :=by kernel_rfl
@[go_sem] theorem ek169 : eqOK Tryz.prog 169 = true :=by kernel_rfl
@[go_sem] theorem tk172 : tyk Tryz.prog 172 = some ⟨.arr 21 9,21,336,.agg [.v (.string ⟨#[]⟩),.v (.string ⟨#[]⟩),.v (.string ⟨#[]⟩),.v (.string ⟨#[]⟩),.v (.string ⟨#[]⟩),.v (.string ⟨#[]⟩),.v (.string ⟨#[]⟩),.v (.string ⟨#[]⟩),.v (.string ⟨#[]⟩),.v (.string ⟨#[]⟩),.v (.string ⟨#[]⟩),.v (.string ⟨#[]⟩),.v (.string ⟨#[]⟩),.v (.string ⟨#[]⟩),.v (.string ⟨#[]⟩),.v (.string ⟨#[]⟩),.v (.string ⟨#[]⟩),.v (.string ⟨#[]⟩),.v (.string ⟨#[]⟩),.v (.string ⟨#[]⟩),.v (.string ⟨#[]⟩)]⟩ :=by kernel_rfl
@[go_sem] theorem tk173 : tyk Tryz.prog 173 = some ⟨.arr 8 4,8,8,.agg [.v (.bool false),.v (.bool false),.v (.bool false),.v (.bool false),.v (.bool false),.v (.bool false),.v (.bool false),.v (.bool false)]⟩ :=by kernel_rfl
@[go_sem] theorem tk176 : tyk Tryz.prog 176 = some ⟨.struct [(0,3),(1,3),(2,3)],3,24,.agg [.v (.int .i64 0),.v (.int .i64 0),.v (.int .i64 0)]⟩ :=by kernel_rfl
@[go_sem] theorem tk177 : tyk Tryz.prog 177 = some ⟨.struct [(0,3),(1,3),(2,3)],3,24,.agg [.v (.int .i64 0),.v (.int .i64 0),.v (.int .i64 0)]⟩ :=by kernel_rfl
@[go_sem] theorem bk177 : bldOK Tryz.prog 177 = true :=by kernel_rfl
@[go_sem] theorem ek177 : eqOK Tryz.prog 177 = true :=by kernel_rfl
@[go_sem] theorem tk180 : tyk Tryz.prog 180 = some ⟨.map 9 3,1,8,.v (.map none)⟩ :=by kernel_rfl
@[go_sem] theorem tk181 : tyk Tryz.prog 181 = some ⟨.map 9 185,1,8,.v (.map none)⟩ :=by kernel_rfl
@[go_sem] theorem tk182 : tyk Tryz.prog 182 = some ⟨.struct [(0,180),(1,181)],2,16,.agg [.v (.map none),.v (.map none)]⟩ :=by kernel_rfl
@[go_sem] theorem tk183 : tyk Tryz.prog 183 = some ⟨.struct [(0,180),(1,181)],2,16,.agg [.v (.map none),.v (.map none)]⟩ :=by kernel_rfl
@[go_sem] theorem bk183 : bldOK Tryz.prog 183 = true :=by kernel_rfl
@[go_sem] theorem ek183 : eqOK Tryz.prog 183 = true :=by kernel_rfl
@[go_sem] theorem tk184 : tyk Tryz.prog 184 = some ⟨.struct [(0,3),(1,24),(2,4)],3,24,.agg [.v (.int .i64 0),.v (.int .i64 0),.v (.bool false)]⟩ :=by kernel_rfl
@[go_sem] theorem C5 : tyk Tryz.prog 185 = some ⟨.struct [(0,3),(1,24),(2,4)],3,24,.agg [.v (.int .i64 0),.v (.int .i64 0),.v (.bool false)]⟩ :=by kernel_rfl
@[go_sem] theorem bk185 : bldOK Tryz.prog 185 = true :=by kernel_rfl
@[go_sem] theorem ek185 : eqOK Tryz.prog 185 = true :=by kernel_rfl
@[go_sem] theorem tk188 : tyk Tryz.prog 188 = some ⟨.int .u64,1,8,.v (.int .u64 0)⟩ :=by kernel_rfl
@[go_sem] theorem tk194 : tyk Tryz.prog 194 = some ⟨.arr 11 9,11,176,.agg [.v (.string ⟨#[]⟩),.v (.string ⟨#[]⟩),.v (.string ⟨#[]⟩),.v (.string ⟨#[]⟩),.v (.string ⟨#[]⟩),.v (.string ⟨#[]⟩),.v (.string ⟨#[]⟩),.v (.string ⟨#[]⟩),.v (.string ⟨#[]⟩),.v (.string ⟨#[]⟩),.v (.string ⟨#[]⟩)]⟩ :=by kernel_rfl
@[go_sem] theorem tk200 : tyk Tryz.prog 200 = some ⟨.slice 202,1,24,.nil⟩ :=by kernel_rfl
@[go_sem] theorem tk201 : tyk Tryz.prog 201 = some ⟨.struct [(0,9),(1,3),(2,3)],3,32,.agg [.v (.string ⟨#[]⟩),.v (.int .i64 0),.v (.int .i64 0)]⟩ :=by kernel_rfl
@[go_sem] theorem tk202 : tyk Tryz.prog 202 = some ⟨.struct [(0,9),(1,3),(2,3)],3,32,.agg [.v (.string ⟨#[]⟩),.v (.int .i64 0),.v (.int .i64 0)]⟩ :=by kernel_rfl
@[go_sem] theorem bk202 : bldOK Tryz.prog 202 = true :=by kernel_rfl
@[go_sem] theorem ek202 : eqOK Tryz.prog 202 = true :=by kernel_rfl
@[go_sem] theorem tk207 : tyk Tryz.prog 207 = some ⟨.map 9 29,1,8,.v (.map none)⟩ :=by kernel_rfl
@[go_sem] theorem tk211 : tyk Tryz.prog 211 = some ⟨.map 3 4,1,8,.v (.map none)⟩ :=by kernel_rfl
@[go_sem] theorem tk213 : tyk Tryz.prog 213 = some ⟨.int .u32,1,4,.v (.int .u32 0)⟩ :=by kernel_rfl
@[go_sem] theorem tk216 : tyk Tryz.prog 216 = some ⟨.int .u64,1,8,.v (.int .u64 0)⟩ :=by kernel_rfl
@[go_sem] theorem tk220 : tyk Tryz.prog 220 = some ⟨.int .i64,1,8,.v (.int .i64 0)⟩ :=by kernel_rfl
@[go_sem] theorem tk230 : tyk Tryz.prog 230 = some ⟨.ptr,1,8,.v (.pointer none)⟩ :=by kernel_rfl
@[go_sem] theorem tk231 : tyk Tryz.prog 231 = some ⟨.slice 256,1,24,.nil⟩ :=by kernel_rfl
@[go_sem] theorem tk232 : tyk Tryz.prog 232 = some ⟨.struct [(0,26),(1,231),(2,180)],3,56,.agg [.nil,.nil,.v (.map none)]⟩ :=by kernel_rfl
@[go_sem] theorem tk233 : tyk Tryz.prog 233 = some ⟨.struct [(0,26),(1,231),(2,180)],3,56,.agg [.nil,.nil,.v (.map none)]⟩ :=by kernel_rfl
@[go_sem] theorem bk233 : bldOK Tryz.prog 233 = true :=by kernel_rfl
@[go_sem] theorem ek233 : eqOK Tryz.prog 233 = true :=by kernel_rfl
@[go_sem] theorem tk240 : tyk Tryz.prog 240 = some ⟨.int .u64,1,8,.v (.int .u64 0)⟩ :=by kernel_rfl
@[go_sem] theorem tk245 : tyk Tryz.prog 245 = some ⟨.struct [(0,24)],1,8,.agg [.v (.int .i64 0)]⟩ :=by kernel_rfl
@[go_sem] theorem tk246 : tyk Tryz.prog 246 = some ⟨.struct [(0,24)],1,8,.agg [.v (.int .i64 0)]⟩ :=by kernel_rfl
@[go_sem] theorem bk246 : bldOK Tryz.prog 246 = true :=by kernel_rfl
@[go_sem] theorem ek246 : eqOK Tryz.prog 246 = true :=by kernel_rfl
@[go_sem] theorem tk249 : tyk Tryz.prog 249 = some ⟨.ptr,1,8,.v (.pointer none)⟩ :=by kernel_rfl
@[go_sem] theorem tk254 : tyk Tryz.prog 254 = some ⟨.ptr,1,8,.v (.pointer none)⟩ :=by kernel_rfl
@[go_sem] theorem tk255 : tyk Tryz.prog 255 = some ⟨.struct [(0,3),(1,24),(2,4)],3,24,.agg [.v (.int .i64 0),.v (.int .i64 0),.v (.bool false)]⟩ :=by kernel_rfl
@[go_sem] theorem tk256 : tyk Tryz.prog 256 = some ⟨.struct [(0,3),(1,24),(2,4)],3,24,.agg [.v (.int .i64 0),.v (.int .i64 0),.v (.bool false)]⟩ :=by kernel_rfl
@[go_sem] theorem bk256 : bldOK Tryz.prog 256 = true :=by kernel_rfl
@[go_sem] theorem ek256 : eqOK Tryz.prog 256 = true :=by kernel_rfl
@[go_sem] theorem tk259 : tyk Tryz.prog 259 = some ⟨.struct [(0,17),(1,17),(2,17),(3,9)],4,40,.agg [.v (.pointer none),.v (.pointer none),.v (.pointer none),.v (.string ⟨#[]⟩)]⟩ :=by kernel_rfl
@[go_sem] theorem tk260 : tyk Tryz.prog 260 = some ⟨.struct [(0,17),(1,17),(2,17),(3,9)],4,40,.agg [.v (.pointer none),.v (.pointer none),.v (.pointer none),.v (.string ⟨#[]⟩)]⟩ :=by kernel_rfl
@[go_sem] theorem tk261 : tyk Tryz.prog 261 = some ⟨.arr 0 16,0,0,.agg []⟩ :=by kernel_rfl
@[go_sem] theorem tk262 : tyk Tryz.prog 262 = some ⟨.struct [(0,261)],0,0,.agg []⟩ :=by kernel_rfl
@[go_sem] theorem tk263 : tyk Tryz.prog 263 = some ⟨.struct [(0,261)],0,0,.agg []⟩ :=by kernel_rfl
@[go_sem] theorem tk264 : tyk Tryz.prog 264 = some ⟨.int .u8,1,1,.v (.int .u8 0)⟩ :=by kernel_rfl
@[go_sem] theorem tk265 : tyk Tryz.prog 265 = some ⟨.int .u8,1,1,.v (.int .u8 0)⟩ :=by kernel_rfl
@[go_sem] theorem tk267 : tyk Tryz.prog 267 = some ⟨.ptr,1,8,.v (.pointer none)⟩ :=by kernel_rfl
@[go_sem] theorem tk268 : tyk Tryz.prog 268 = some ⟨.int .i32,1,4,.v (.int .i32 0)⟩ :=by kernel_rfl
@[go_sem] theorem tk269 : tyk Tryz.prog 269 = some ⟨.int .i32,1,4,.v (.int .i32 0)⟩ :=by kernel_rfl
@[go_sem] theorem tk270 : tyk Tryz.prog 270 = some ⟨.struct [(0,12),(1,12),(2,213),(3,264),(4,5),(5,5),(6,265),(7,266),(8,267),(9,268),(10,269)],11,48,.agg [.v (.int .u64 0),.v (.int .u64 0),.v (.int .u32 0),.v (.int .u8 0),.v (.int .u8 0),.v (.int .u8 0),.v (.int .u8 0),.v .nilFunc,.v (.pointer none),.v (.int .i32 0),.v (.int .i32 0)]⟩ :=by kernel_rfl
@[go_sem] theorem tk271 : tyk Tryz.prog 271 = some ⟨.struct [(0,12),(1,12),(2,213),(3,264),(4,5),(5,5),(6,265),(7,266),(8,267),(9,268),(10,269)],11,48,.agg [.v (.int .u64 0),.v (.int .u64 0),.v (.int .u32 0),.v (.int .u8 0),.v (.int .u8 0),.v (.int .u8 0),.v (.int .u8 0),.v .nilFunc,.v (.pointer none),.v (.int .i32 0),.v (.int .i32 0)]⟩ :=by kernel_rfl
@[go_sem] theorem if20 : ifcE Tryz.prog 20 = true :=by kernel_rfl
@[go_sem] theorem cl3 : callable Tryz.prog 3 = true :=by kernel_rfl
@[go_sem] theorem cl4 : callable Tryz.prog 4 = true :=by kernel_rfl
@[go_sem] theorem cl5 : callable Tryz.prog 5 = true :=by kernel_rfl
@[go_sem] theorem cl6 : callable Tryz.prog 6 = true :=by kernel_rfl
@[go_sem] theorem cl7 : callable Tryz.prog 7 = true :=by kernel_rfl
@[go_sem] theorem cl8 : callable Tryz.prog 8 = true :=by kernel_rfl
@[go_sem] theorem cl9 : callable Tryz.prog 9 = true :=by kernel_rfl
@[go_sem] theorem cl10 : callable Tryz.prog 10 = true :=by kernel_rfl
@[go_sem] theorem cl11 : callable Tryz.prog 11 = true :=by kernel_rfl
@[go_sem] theorem cl12 : callable Tryz.prog 12 = true :=by kernel_rfl
@[go_sem] theorem cl13 : callable Tryz.prog 13 = true :=by kernel_rfl
@[go_sem] theorem cl14 : callable Tryz.prog 14 = true :=by kernel_rfl
@[go_sem] theorem cl15 : callable Tryz.prog 15 = true :=by kernel_rfl
@[go_sem] theorem cl16 : callable Tryz.prog 16 = true :=by kernel_rfl
@[go_sem] theorem cl17 : callable Tryz.prog 17 = true :=by kernel_rfl
@[go_sem] theorem cl18 : callable Tryz.prog 18 = true :=by kernel_rfl
@[go_sem] theorem cl19 : callable Tryz.prog 19 = true :=by kernel_rfl
@[go_sem] theorem cl20 : callable Tryz.prog 20 = true :=by kernel_rfl
@[go_sem] theorem cl21 : callable Tryz.prog 21 = true :=by kernel_rfl
@[go_sem] theorem cl22 : callable Tryz.prog 22 = true :=by kernel_rfl
@[go_sem] theorem cl23 : callable Tryz.prog 23 = true :=by kernel_rfl
@[go_sem] theorem cl24 : callable Tryz.prog 24 = true :=by kernel_rfl
@[go_sem] theorem cl25 : callable Tryz.prog 25 = true :=by kernel_rfl
@[go_sem] theorem cl26 : callable Tryz.prog 26 = true :=by kernel_rfl
@[go_sem] theorem cl27 : callable Tryz.prog 27 = true :=by kernel_rfl
@[go_sem] theorem cl28 : callable Tryz.prog 28 = true :=by kernel_rfl
@[go_sem] theorem cl29 : callable Tryz.prog 29 = true :=by kernel_rfl
@[go_sem] theorem cl30 : callable Tryz.prog 30 = true :=by kernel_rfl
@[go_sem] theorem cl31 : callable Tryz.prog 31 = true :=by kernel_rfl
@[go_sem] theorem cl32 : callable Tryz.prog 32 = true :=by kernel_rfl
@[go_sem] theorem cl33 : callable Tryz.prog 33 = true :=by kernel_rfl
@[go_sem] theorem cl34 : callable Tryz.prog 34 = true :=by kernel_rfl
@[go_sem] theorem cl35 : callable Tryz.prog 35 = true :=by kernel_rfl
@[go_sem] theorem cl36 : callable Tryz.prog 36 = true :=by kernel_rfl
@[go_sem] theorem cl37 : callable Tryz.prog 37 = true :=by kernel_rfl
@[go_sem] theorem cl38 : callable Tryz.prog 38 = true :=by kernel_rfl
@[go_sem] theorem cl39 : callable Tryz.prog 39 = true :=by kernel_rfl
@[go_sem] theorem cl40 : callable Tryz.prog 40 = true :=by kernel_rfl
@[go_sem] theorem cl41 : callable Tryz.prog 41 = true :=by kernel_rfl
@[go_sem] theorem cl42 : callable Tryz.prog 42 = true :=by kernel_rfl
@[go_sem] theorem cl43 : callable Tryz.prog 43 = true :=by kernel_rfl
@[go_sem] theorem cl44 : callable Tryz.prog 44 = true :=by kernel_rfl
@[go_sem] theorem cl45 : callable Tryz.prog 45 = true :=by kernel_rfl
@[go_sem] theorem cl46 : callable Tryz.prog 46 = true :=by kernel_rfl
@[go_sem] theorem cl47 : callable Tryz.prog 47 = true :=by kernel_rfl
@[go_sem] theorem cl48 : callable Tryz.prog 48 = true :=by kernel_rfl
@[go_sem] theorem cl49 : callable Tryz.prog 49 = true :=by kernel_rfl
@[go_sem] theorem cl50 : callable Tryz.prog 50 = true :=by kernel_rfl
@[go_sem] theorem cl51 : callable Tryz.prog 51 = true :=by kernel_rfl
@[go_sem] theorem cl52 : callable Tryz.prog 52 = true :=by kernel_rfl
@[go_sem] theorem cl53 : callable Tryz.prog 53 = true :=by kernel_rfl
@[go_sem] theorem cl54 : callable Tryz.prog 54 = true :=by kernel_rfl
@[go_sem] theorem cl55 : callable Tryz.prog 55 = true :=by kernel_rfl
@[go_sem] theorem cl56 : callable Tryz.prog 56 = true :=by kernel_rfl
@[go_sem] theorem cl57 : callable Tryz.prog 57 = true :=by kernel_rfl
@[go_sem] theorem cl58 : callable Tryz.prog 58 = true :=by kernel_rfl
@[go_sem] theorem cl59 : callable Tryz.prog 59 = true :=by kernel_rfl
@[go_sem] theorem cl60 : callable Tryz.prog 60 = true :=by kernel_rfl
@[go_sem] theorem cl61 : callable Tryz.prog 61 = true :=by kernel_rfl
@[go_sem] theorem cl62 : callable Tryz.prog 62 = true :=by kernel_rfl
@[go_sem] theorem cl63 : callable Tryz.prog 63 = true :=by kernel_rfl
@[go_sem] theorem cl64 : callable Tryz.prog 64 = true :=by kernel_rfl
@[go_sem] theorem cl65 : callable Tryz.prog 65 = true :=by kernel_rfl
@[go_sem] theorem cl66 : callable Tryz.prog 66 = true :=by kernel_rfl
@[go_sem] theorem cl67 : callable Tryz.prog 67 = true :=by kernel_rfl
@[go_sem] theorem cl68 : callable Tryz.prog 68 = true :=by kernel_rfl
@[go_sem] theorem cl69 : callable Tryz.prog 69 = true :=by kernel_rfl
@[go_sem] theorem cl70 : callable Tryz.prog 70 = true :=by kernel_rfl
@[go_sem] theorem cl71 : callable Tryz.prog 71 = true :=by kernel_rfl
@[go_sem] theorem cl72 : callable Tryz.prog 72 = true :=by kernel_rfl
@[go_sem] theorem cl73 : callable Tryz.prog 73 = true :=by kernel_rfl
@[go_sem] theorem cl74 : callable Tryz.prog 74 = true :=by kernel_rfl
@[go_sem] theorem cl75 : callable Tryz.prog 75 = true :=by kernel_rfl
@[go_sem] theorem cl76 : callable Tryz.prog 76 = true :=by kernel_rfl
@[go_sem] theorem cl77 : callable Tryz.prog 77 = true :=by kernel_rfl
@[go_sem] theorem cl78 : callable Tryz.prog 78 = true :=by kernel_rfl
@[go_sem] theorem cl79 : callable Tryz.prog 79 = true :=by kernel_rfl
@[go_sem] theorem cl80 : callable Tryz.prog 80 = true :=by kernel_rfl
@[go_sem] theorem cl81 : callable Tryz.prog 81 = true :=by kernel_rfl
@[go_sem] theorem cl82 : callable Tryz.prog 82 = true :=by kernel_rfl
@[go_sem] theorem cl83 : callable Tryz.prog 83 = true :=by kernel_rfl
@[go_sem] theorem cl84 : callable Tryz.prog 84 = true :=by kernel_rfl
@[go_sem] theorem cl85 : callable Tryz.prog 85 = true :=by kernel_rfl
@[go_sem] theorem cl86 : callable Tryz.prog 86 = true :=by kernel_rfl
@[go_sem] theorem cl87 : callable Tryz.prog 87 = true :=by kernel_rfl
@[go_sem] theorem cl88 : callable Tryz.prog 88 = true :=by kernel_rfl
@[go_sem] theorem cl89 : callable Tryz.prog 89 = true :=by kernel_rfl
@[go_sem] theorem cl90 : callable Tryz.prog 90 = true :=by kernel_rfl
@[go_sem] theorem cl91 : callable Tryz.prog 91 = true :=by kernel_rfl
@[go_sem] theorem cl92 : callable Tryz.prog 92 = true :=by kernel_rfl
@[go_sem] theorem cl93 : callable Tryz.prog 93 = true :=by kernel_rfl
@[go_sem] theorem cl94 : callable Tryz.prog 94 = true :=by kernel_rfl
@[go_sem] theorem cl95 : callable Tryz.prog 95 = true :=by kernel_rfl
@[go_sem] theorem cl96 : callable Tryz.prog 96 = true :=by kernel_rfl
@[go_sem] theorem cl97 : callable Tryz.prog 97 = true :=by kernel_rfl
@[go_sem] theorem cl98 : callable Tryz.prog 98 = true :=by kernel_rfl
@[go_sem] theorem cl99 : callable Tryz.prog 99 = true :=by kernel_rfl
@[go_sem] theorem cl100 : callable Tryz.prog 100 = true :=by kernel_rfl
@[go_sem] theorem cl101 : callable Tryz.prog 101 = true :=by kernel_rfl
@[go_sem] theorem cl102 : callable Tryz.prog 102 = true :=by kernel_rfl
@[go_sem] theorem cl103 : callable Tryz.prog 103 = true :=by kernel_rfl
@[go_sem] theorem cl104 : callable Tryz.prog 104 = true :=by kernel_rfl
@[go_sem] theorem cl105 : callable Tryz.prog 105 = true :=by kernel_rfl
@[go_sem] theorem cl106 : callable Tryz.prog 106 = true :=by kernel_rfl
@[go_sem] theorem cl107 : callable Tryz.prog 107 = true :=by kernel_rfl
@[go_sem] theorem cl108 : callable Tryz.prog 108 = true :=by kernel_rfl
@[go_sem] theorem cl109 : callable Tryz.prog 109 = true :=by kernel_rfl
@[go_sem] theorem cl110 : callable Tryz.prog 110 = true :=by kernel_rfl
@[go_sem] theorem cl111 : callable Tryz.prog 111 = true :=by kernel_rfl
@[go_sem] theorem cl112 : callable Tryz.prog 112 = true :=by kernel_rfl
@[go_sem] theorem cl113 : callable Tryz.prog 113 = true :=by kernel_rfl
@[go_sem] theorem cl114 : callable Tryz.prog 114 = true :=by kernel_rfl
@[go_sem] theorem cl115 : callable Tryz.prog 115 = true :=by kernel_rfl
@[go_sem] theorem cl116 : callable Tryz.prog 116 = true :=by kernel_rfl
@[go_sem] theorem cl117 : callable Tryz.prog 117 = true :=by kernel_rfl
@[go_sem] theorem cl118 : callable Tryz.prog 118 = true :=by kernel_rfl
@[go_sem] theorem cl119 : callable Tryz.prog 119 = true :=by kernel_rfl
@[go_sem] theorem cl120 : callable Tryz.prog 120 = true :=by kernel_rfl
@[go_sem] theorem cl121 : callable Tryz.prog 121 = true :=by kernel_rfl
@[go_sem] theorem cl122 : callable Tryz.prog 122 = true :=by kernel_rfl
@[go_sem] theorem cl123 : callable Tryz.prog 123 = true :=by kernel_rfl
@[go_sem] theorem cl124 : callable Tryz.prog 124 = true :=by kernel_rfl
@[go_sem] theorem cl125 : callable Tryz.prog 125 = true :=by kernel_rfl
@[go_sem] theorem cl126 : callable Tryz.prog 126 = true :=by kernel_rfl
@[go_sem] theorem cl127 : callable Tryz.prog 127 = true :=by kernel_rfl
@[go_sem] theorem cl128 : callable Tryz.prog 128 = true :=by kernel_rfl
@[go_sem] theorem cl129 : callable Tryz.prog 129 = true :=by kernel_rfl
@[go_sem] theorem cl130 : callable Tryz.prog 130 = true :=by kernel_rfl
@[go_sem] theorem cl131 : callable Tryz.prog 131 = true :=by kernel_rfl
@[go_sem] theorem cl132 : callable Tryz.prog 132 = true :=by kernel_rfl
@[go_sem] theorem cl133 : callable Tryz.prog 133 = true :=by kernel_rfl
@[go_sem] theorem cl134 : callable Tryz.prog 134 = true :=by kernel_rfl
@[go_sem] theorem cl135 : callable Tryz.prog 135 = true :=by kernel_rfl
@[go_sem] theorem cl136 : callable Tryz.prog 136 = true :=by kernel_rfl
@[go_sem] theorem cl137 : callable Tryz.prog 137 = true :=by kernel_rfl
@[go_sem] theorem cl138 : callable Tryz.prog 138 = true :=by kernel_rfl
@[go_sem] theorem cl139 : callable Tryz.prog 139 = true :=by kernel_rfl
@[go_sem] theorem cl140 : callable Tryz.prog 140 = true :=by kernel_rfl
@[go_sem] theorem cl141 : callable Tryz.prog 141 = true :=by kernel_rfl
@[go_sem] theorem cl142 : callable Tryz.prog 142 = true :=by kernel_rfl
@[go_sem] theorem cl143 : callable Tryz.prog 143 = true :=by kernel_rfl
@[go_sem] theorem cl144 : callable Tryz.prog 144 = true :=by kernel_rfl
@[go_sem] theorem cl145 : callable Tryz.prog 145 = true :=by kernel_rfl
@[go_sem] theorem cl146 : callable Tryz.prog 146 = true :=by kernel_rfl
@[go_sem] theorem cl147 : callable Tryz.prog 147 = true :=by kernel_rfl
@[go_sem] theorem cl148 : callable Tryz.prog 148 = true :=by kernel_rfl
@[go_sem] theorem cl149 : callable Tryz.prog 149 = true :=by kernel_rfl
@[go_sem] theorem cl150 : callable Tryz.prog 150 = true :=by kernel_rfl
@[go_sem] theorem cl151 : callable Tryz.prog 151 = true :=by kernel_rfl
@[go_sem] theorem cl152 : callable Tryz.prog 152 = true :=by kernel_rfl
@[go_sem] theorem cl153 : callable Tryz.prog 153 = true :=by kernel_rfl
@[go_sem] theorem cl154 : callable Tryz.prog 154 = true :=by kernel_rfl
@[go_sem] theorem cl155 : callable Tryz.prog 155 = true :=by kernel_rfl
@[go_sem] theorem cl156 : callable Tryz.prog 156 = true :=by kernel_rfl
@[go_sem] theorem cl157 : callable Tryz.prog 157 = true :=by kernel_rfl
@[go_sem] theorem cl158 : callable Tryz.prog 158 = true :=by kernel_rfl
@[go_sem] theorem cl159 : callable Tryz.prog 159 = true :=by kernel_rfl
@[go_sem] theorem cl160 : callable Tryz.prog 160 = true :=by kernel_rfl
@[go_sem] theorem cl161 : callable Tryz.prog 161 = true :=by kernel_rfl
@[go_sem] theorem cl162 : callable Tryz.prog 162 = true :=by kernel_rfl
@[go_sem] theorem cl163 : callable Tryz.prog 163 = true :=by kernel_rfl
@[go_sem] theorem cl164 : callable Tryz.prog 164 = true :=by kernel_rfl
@[go_sem] theorem cl165 : callable Tryz.prog 165 = true :=by kernel_rfl
@[go_sem] theorem cl168 : callable Tryz.prog 168 = true :=by kernel_rfl
@[go_sem] theorem cl169 : callable Tryz.prog 169 = true :=by kernel_rfl
@[go_sem] theorem cl170 : callable Tryz.prog 170 = true :=by kernel_rfl
@[go_sem] theorem cl171 : callable Tryz.prog 171 = true :=by kernel_rfl
@[go_sem] theorem cl172 : callable Tryz.prog 172 = true :=by kernel_rfl
@[go_sem] theorem cl173 : callable Tryz.prog 173 = true :=by kernel_rfl
@[go_sem] theorem cl174 : callable Tryz.prog 174 = true :=by kernel_rfl
@[go_sem] theorem cl175 : callable Tryz.prog 175 = true :=by kernel_rfl
@[go_sem] theorem cl176 : callable Tryz.prog 176 = true :=by kernel_rfl
@[go_sem] theorem cl177 : callable Tryz.prog 177 = true :=by kernel_rfl
@[go_sem] theorem cl178 : callable Tryz.prog 178 = true :=by kernel_rfl
@[go_sem] theorem cl179 : callable Tryz.prog 179 = true :=by kernel_rfl
@[go_sem] theorem cl180 : callable Tryz.prog 180 = true :=by kernel_rfl
@[go_sem] theorem cl181 : callable Tryz.prog 181 = true :=by kernel_rfl
@[go_sem] theorem cl182 : callable Tryz.prog 182 = true :=by kernel_rfl
@[go_sem] theorem cl183 : callable Tryz.prog 183 = true :=by kernel_rfl
@[go_sem] theorem cl184 : callable Tryz.prog 184 = true :=by kernel_rfl
@[go_sem] theorem cl185 : callable Tryz.prog 185 = true :=by kernel_rfl
@[go_sem] theorem cl187 : callable Tryz.prog 187 = true :=by kernel_rfl
@[go_sem] theorem cl188 : callable Tryz.prog 188 = true :=by kernel_rfl
@[go_sem] theorem cl189 : callable Tryz.prog 189 = true :=by kernel_rfl
end Go.Proofs.YtaolljbpencjnaaGreatDoor

namespace Go.Proofs.YtaolljbpencjnaaGreatDoor
open Go.RowKit Go.Ab
abbrev ii (n : Int) : AV :=.v (.int .i64 n)
abbrev bb (b : Bool) : AV :=.v (.bool b)
abbrev B (l : By) : ByteArray :=⟨l.toArray⟩
abbrev ss (l : By) : AV :=.v (.string (B l))
abbrev uu (c : UInt8) : AV :=.v (.int .u8 c.toNat)
abbrev fv (f : Nat) : AV :=.v (.func (.func f) #[] #[])
theorem mixed : Tryz.prog.follows .mixedOrders = true :=by kernel_rfl
abbrev tk (x : Tk) : AV :=.agg [ii x.kind,ss x.text,ii x.n,ii x.pos]
@[go_sem] theorem nth_tk {L : List Tk} {k : Nat} (h : k < L.length) : nth (L.map tk) k = tk L[k] :=cX tk h
@[go_sem] theorem sD {L : List By} {k : Nat} (h : k < L.length) : nth (L.map ss) k = ss L[k] :=cX ss h
@[go_sem] theorem beqB (a b : Bool) : (a == b) = decide (a = b) :=by cases a <;> cases b <;> rfl
@[go_sem] theorem E3 (a b : Int) : (a == b) = decide (a = b) :=by rw [Bool.eq_iff_iff]; simp
theorem u0 {a b : By} : B a = B b ↔ a = b :=by
 constructor
 · intro h; have :=congrArg (fun s : ByteArray => s.data.toList) h; simpa using this
 · rintro rfl; rfl
@[go_sem] theorem DY (a b : By) : (B a == B b) = decide (a = b) :=by rw [Bool.eq_iff_iff,zL]; simp [u0]
@[go_sem] theorem bneI (a b : Int) : (a != b) = !decide (a = b) :=by rw [bne,E3]
@[go_sem] theorem bneS (a b : By) : (B a != B b) = !decide (a = b) :=by rw [bne,DY]
@[go_sem] theorem sizeB (l : By) : (B l).size = l.length :=by simp [ByteArray.size]
@[go_sem] theorem getB (l : By) (n : Nat) (d : UInt8) : l.toArray.getD n d = l.getD n d :=by simp [Array.getD_eq_getD_getElem?,List.getD_eq_getElem?_getD]
@[go_sem] theorem getL {l : By} {n : Nat} (h : n < l.length) (d : UInt8) : l.getD n d = l[n] :=by simp [List.getD_eq_getElem?_getD,h]
theorem zM (x y : ByteArray) (h : x.data = y.data) : x = y :=by cases x; cases y; simp at h; rw [h]
@[go_sem] theorem extB (l : By) (a b : Nat) : (B l).extract a b = B ((l.take b).drop a) :=by
  apply zM
  simp [List.drop_take]
@[go_sem] theorem appB (a b : By) : B a ++ B b = B (a ++ b) :=by
  apply zM; simp
@[go_sem] theorem takeLen (l : By) : l.take l.length = l :=List.take_length
theorem toB (s : ByteArray) : ∃ l : By,s = B l :=⟨s.data.toList,by simp⟩
def signs : List By :=[[61,61],[59],[44],[61],[60],[43],[45],[42],[47],[40],[41]]
@[go_sem] theorem gl0 : globV 1 = .ro (signs.map ss) :=by rfl
theorem E5 (c d : UInt8) : decide ((c.toNat : Int) = (d.toNat : Int)) = (c == d) :=by
 rw [Bool.eq_iff_iff]; simp
 exact ⟨fun h => UInt8.toNat_inj.1 (by omega),fun h => by rw [h]⟩
end Go.Proofs.YtaolljbpencjnaaGreatDoor

namespace Go.Proofs.YtaolljbpencjnaaGreatDoor
open Go.RowKit Go.Ab
attribute [local irreducible] AWP Go.Ab.Sub Means MeansH CallK CallG CallT CallGT
theorem wJ (c : UInt8) : isBlank c = (decide (c.toNat = 32) || decide (c.toNat = 9) || decide (c.toNat = 10)) :=by
 rw [Bool.eq_iff_iff]; simp [isBlank,← UInt8.toNat_inj]
theorem uI (c : UInt8) : Means true Tryz.prog 94 [uu c] (bb (isBlank c)) :=by
 refine aH true 13 [.tmp 2] Tryz.func94 rfl rfl rfl (by simp) (by decide) rfl fun X hX => ?_
 (repeat (refine aA [0,2] hX mixed rfl ?_; (simp [go_sem]; try (refine ⟨by kernel_rfl,?_⟩))))
 rw [wJ,Bool.eq_iff_iff]; simp; omega
theorem dW (c : UInt8) : Means true Tryz.prog 124 [uu c] (bb (isLetter c)) :=by
 refine aH true 9 [.tmp 2] Tryz.func124 rfl rfl rfl (by simp) (by decide) rfl fun X hX => ?_
 (repeat (refine aA [0,2] hX mixed rfl ?_; (simp [go_sem]; try (refine ⟨by kernel_rfl,?_⟩))))
 rw [isLetter,Bool.eq_iff_iff]; simp; try omega
theorem eC (c : UInt8) : Means true Tryz.prog 126 [uu c] (bb (isDigit c)) :=by
 refine aH true 9 [.tmp 2] Tryz.func126 rfl rfl rfl (by simp) (by decide) rfl fun X hX => ?_
 (repeat (refine aA [0,2] hX mixed rfl ?_; (simp [go_sem]; try (refine ⟨by kernel_rfl,?_⟩))))
 rw [isDigit,Bool.eq_iff_iff]; simp; try omega
theorem C6 (c : UInt8) : Means true Tryz.prog 129 [uu c] (bb (isAl c)) :=by
 refine aH true 9 [.tmp 2] Tryz.func129 rfl rfl rfl (by simp) (by decide) rfl fun X hX => ?_
 (repeat (refine aA [0,2] hX mixed rfl ?_; (simp [go_sem]; try (refine ⟨by kernel_rfl,?_⟩))))
 first | refine aP (dW c) ?_ | refine aQ (dW c) ?_
 try (simp [go_sem]; try (refine ⟨by kernel_rfl,?_⟩))
 first | refine aX (fun hg => eC c) ?_ | refine aW (fun hg => eC c) ?_
 try (simp [go_sem]; try (refine ⟨by kernel_rfl,?_⟩))
 (repeat (refine aA [0,2] hX mixed rfl ?_; (simp [go_sem]; try (refine ⟨by kernel_rfl,?_⟩))))
 cases h : isLetter c <;> simp [isAl,h]
theorem C7 (c : UInt8) : Means true Tryz.prog 125 [uu c] (bb (isAl c)) :=by
 refine aH true 9 [.tmp 2] Tryz.func125 rfl rfl rfl (by simp) (by decide) rfl fun X hX => ?_
 (repeat (refine aA [0,2] hX mixed rfl ?_; (simp [go_sem]; try (refine ⟨by kernel_rfl,?_⟩))))
 first | refine aP (dW c) ?_ | refine aQ (dW c) ?_
 try (simp [go_sem]; try (refine ⟨by kernel_rfl,?_⟩))
 first | refine aX (fun hg => eC c) ?_ | refine aW (fun hg => eC c) ?_
 try (simp [go_sem]; try (refine ⟨by kernel_rfl,?_⟩))
 (repeat (refine aA [0,2] hX mixed rfl ?_; (simp [go_sem]; try (refine ⟨by kernel_rfl,?_⟩))))
 cases h : isLetter c <;> simp [isAl,h]
theorem BO {f : UInt8 → Bool} {l : By} {k : Nat} (hk : k < l.length) (h : (l.take k).all f = true) : (f l[k] = true → (l.take (k + 1)).all f = true) ∧ (f l[k] = false → l.takeWhile f = l.take k) :=by
 refine ⟨fun hf => by rw [List.take_succ_eq_append_getElem hk,List.all_append,h]; simp [hf],fun hf => ?_⟩
 induction l generalizing k with
 | nil => simp at hk
 | cons c l ih =>
   cases k with
   | zero => simp at hf; simp [hf]
   | succ k =>
     simp only [List.take_succ_cons,List.all_cons,Bool.and_eq_true] at h
     simp only [List.takeWhile_cons,h.1,if_true,List.take_succ_cons]
     rw [ih (by simpa using hk) h.2 (by simpa using hf)]
theorem D9 {f : UInt8 → Bool} {l : By} (h : (l.take l.length).all f = true) : l.takeWhile f = l :=by rw [List.take_length] at h; exact z7 f l h
theorem fQ (f : Nat) (p : UInt8 → Bool) (hc : callable Tryz.prog f = true) (hf : ∀ c,Means true Tryz.prog f [uu c] (bb (p c))) (l : By) (hl : l.length ≤ 100000) :
  Means true Tryz.prog 93 [ss l,fv f] (ii (l.takeWhile p).length) :=by
 refine aH true 20 [.tmp 4] Tryz.func93 rfl rfl rfl (by simp) (by decide) rfl fun X hX => ?_
 (repeat (refine aA q13x3 hX mixed rfl ?_; (simp [go_sem]; try (refine ⟨by kernel_rfl,?_⟩))))
 refine aV (fun k : Nat => ⟨mkE [(0,ss l),(1,fv f),(5,ii k)],[]⟩) (fun k => k ≤ l.length ∧ (l.take k).all p = true) (fun k => l.length - k) 0 ?_ ?_ ?_
 · refine aM _ [] (by simp [go_sem]) ?_
   simp [go_sem]
 · simp
 · rintro k ⟨hk,hn⟩
   by_cases hkl : k < l.length
   · obtain ⟨t1,t2⟩ :=BO hkl hn
     (repeat (refine aA q13x3 hX mixed rfl ?_; (simp [go_sem,hc,hkl]; try (refine ⟨by kernel_rfl,?_⟩))))
     first | refine aX (fun hg => hf l[k]) ?_ | refine aW (fun hg => hf l[k]) ?_
     try (simp [go_sem]; try (refine ⟨by kernel_rfl,?_⟩))
     (repeat (refine aA q13x3 hX mixed rfl ?_; (simp [go_sem,hc]; try (refine ⟨by kernel_rfl,?_⟩))))
     refine aC (b :=p l[k]) (by simp [go_sem,hkl]) (fun hb => ?_) (fun hb => ?_)
     · (repeat (refine aA q13x3 hX mixed rfl ?_; (simp [go_sem,hc]; (try simp (disch :=omega) only [w64,td,tm]); try (refine ⟨by kernel_rfl,?_⟩))))
       refine ⟨k + 1,⟨by omega,by simpa using t1 hb⟩,by omega,?_⟩
       refine aM _ [] (by simp [go_sem]) ?_
       simp [go_sem]
     · (repeat (refine aA q13x3 hX mixed rfl ?_; (simp [go_sem,hc]; try (refine ⟨by kernel_rfl,?_⟩))))
       rw [t2 hb]; simp; omega
   · have hkl : k = l.length :=by omega
     subst hkl
     (repeat (refine aA q13x3 hX mixed rfl ?_; (simp [go_sem,hc]; try (refine ⟨by kernel_rfl,?_⟩))))
     first | refine aX (fun hg => (show Means true Tryz.prog _ _ (bb false) by simp at hg)) ?_ | refine aW (fun hg => (show Means true Tryz.prog _ _ (bb false) by simp at hg)) ?_
     try (simp [go_sem]; try (refine ⟨by kernel_rfl,?_⟩))
     (repeat (refine aA q13x3 hX mixed rfl ?_; (simp [go_sem,hc]; try (refine ⟨by kernel_rfl,?_⟩))))
     refine aC (b :=false) (by simp [go_sem]) (fun hb => by cases hb) (fun hb => ?_)
     (repeat (refine aA q13x3 hX mixed rfl ?_; (simp [go_sem,hc]; try (refine ⟨by kernel_rfl,?_⟩))))
     rw [D9 hn]
end Go.Proofs.YtaolljbpencjnaaGreatDoor

namespace Go.Proofs.YtaolljbpencjnaaGreatDoor
open Go.RowKit Go.Ab
attribute [local irreducible] AWP Go.Ab.Sub Means MeansH CallK CallG CallT CallGT
theorem jM (f : UInt8 → Bool) (l : By) : (l.takeWhile f).length = l.length ↔ l.all f = true :=by
 constructor
 · intro h
   have h1 :=z8 f l
   have h2 :=iA f l
   rw [h,List.take_length] at h2
   rwa [h2] at h1
 · intro h; rw [z7 f l h]
theorem sG (l : By) (hl : l.length ≤ 100000) : Means true Tryz.prog 100 [ss l] (bb (isWord l)) :=by
 refine aH true 21 [.tmp 2] Tryz.func100 rfl rfl rfl (by simp) (by decide) rfl fun X hX => ?_
 cases l with
 | nil =>
   (repeat (refine aA [0,2,15] hX mixed rfl ?_; (simp [go_sem]; try (refine ⟨by kernel_rfl,?_⟩))))
   first | refine aX (fun hg => (show Means true Tryz.prog _ _ (bb false) by cases hg)) ?_ | refine aW (fun hg => (show Means true Tryz.prog _ _ (bb false) by cases hg)) ?_
   try (simp [go_sem]; try (refine ⟨by kernel_rfl,?_⟩))
   (repeat (refine aA [0,2,15] hX mixed rfl ?_; (simp [go_sem]; try (refine ⟨by kernel_rfl,?_⟩))))
   refine aC (b :=true) (by simp [go_sem]) (fun hb => ?_) (fun hb => by cases hb)
   (repeat (refine aA [0,2,15] hX mixed rfl ?_; (simp [go_sem]; try (refine ⟨by kernel_rfl,?_⟩))))
   simp [isWord]
 | cons c r =>
   (repeat (refine aA [0,2,15] hX mixed rfl ?_; (simp [go_sem]; try (refine ⟨by kernel_rfl,?_⟩))))
   first | refine aX (fun hg => dW c) ?_ | refine aW (fun hg => dW c) ?_
   try (simp [go_sem]; try (refine ⟨by kernel_rfl,?_⟩))
   (repeat (refine aA [0,2,15] hX mixed rfl ?_; (simp [go_sem]; try (refine ⟨by kernel_rfl,?_⟩))))
   refine aC (b :=!isLetter c || decide (20 < (c :: r).length)) (by simp [go_sem]; cases isLetter c <;> simp; try omega) (fun hb => ?_) (fun hb => ?_)
   · (repeat (refine aA [0,2,15] hX mixed rfl ?_; (simp [go_sem]; try (refine ⟨by kernel_rfl,?_⟩))))
     have : isWord (c :: r) = false :=by
      simp only [isWord]
      cases hc : isLetter c with
      | false => rfl
      | true => rw [hc] at hb; simp at hb; simp; intro h; omega
     rw [this]
   · simp at hb
     (repeat (refine aA [0,2,15] hX mixed rfl ?_; (simp [go_sem]; try (refine ⟨by kernel_rfl,?_⟩))))
     first | refine aP (fQ 129 isAl (by simp [go_sem]) C6 (c :: r) hl) ?_ | refine aQ (fQ 129 isAl (by simp [go_sem]) C6 (c :: r) hl) ?_
     try (simp [go_sem]; try (refine ⟨by kernel_rfl,?_⟩))
     (repeat (refine aA [0,2,15] hX mixed rfl ?_; (simp [go_sem]; try (refine ⟨by kernel_rfl,?_⟩))))
     rw [Bool.eq_iff_iff]
     simp only [isWord,Bool.and_eq_true,decide_eq_true_eq]
     have :=jM isAl (c :: r)
     simp only [List.length_cons] at this ⊢
     rw [← this]
     constructor
     · intro h; exact ⟨⟨hb.1,by omega⟩,by omega⟩
     · intro h; omega
theorem jX {l : By} {k : Nat} (hk : k < l.length) : numVal (l.take (k + 1)) = 10 * numVal (l.take k) + (l[k].toNat - 48) :=by
 rw [List.take_succ_eq_append_getElem hk,sX]
theorem nQ : ∀ {l : By},l.all isDigit = true → ∀ k,k ≤ l.length → numVal (l.take k) < 10 ^ k
 | l,h,0,_ => by simp [numVal]
 | l,h,k + 1,hk => by
   rw [jX (by omega)]
   have :=nQ h k (by omega)
   have hd : isDigit l[k] = true :=List.all_eq_true.1 h _ (List.getElem_mem (by omega))
   simp only [isDigit,Bool.and_eq_true,decide_eq_true_eq] at hd
   rw [Nat.pow_succ]; omega
theorem dig {c : UInt8} (h : isDigit c = true) : 48 ≤ c.toNat ∧ c.toNat ≤ 57 :=by simpa [isDigit] using h
theorem E6 {c : UInt8} (h : isDigit c = true) : IntKind.u8.wrap ((c.toNat : Int) - 48) = (c.toNat - 48 : Nat) :=by
 obtain ⟨h1,h2⟩ :=dig h
 rw [show ((c.toNat : Int) - 48) = ((c.toNat - 48 : Nat) : Int) by omega]
 have hk : c.toNat - 48 < 256 :=by omega
 generalize c.toNat - 48 = k at hk
 revert k
 decide +kernel
theorem c48 {c : UInt8} : (c.toNat : Int) = 48 ↔ c = 48 :=by
 have :=E5 c 48
 rw [Bool.eq_iff_iff] at this
 simpa using this
abbrev numAV (l : By) : AV :=.tup [ii (if isNum l then (numVal l : Int) else 0),bb (isNum l)]
set_option maxHeartbeats 1000000 in
set_option maxRecDepth 20000 in
theorem r8 (l : By) (hl : l.length ≤ 100000) : Means true Tryz.prog 127 [ss l] (numAV l) :=by
 have hs :=fQ 126 isDigit (by simp [go_sem]) eC l hl
 refine aH true 46 [.tmp 2,.tmp 3] Tryz.func127 rfl rfl rfl (by simp) (by decide) rfl fun X hX => ?_
 cases l with
 | nil =>
   (repeat (refine aA q13x2 hX mixed rfl ?_; (simp [go_sem]; try (refine ⟨by kernel_rfl,?_⟩))))
   first | refine aX (fun hg => (show Means true Tryz.prog _ _ (ii 0) by cases hg)) ?_ | refine aW (fun hg => (show Means true Tryz.prog _ _ (ii 0) by cases hg)) ?_
   try (simp [go_sem]; try (refine ⟨by kernel_rfl,?_⟩))
   (repeat (refine aA q13x2 hX mixed rfl ?_; (simp [go_sem]; try (refine ⟨by kernel_rfl,?_⟩))))
   refine aC (b :=true) (by simp [go_sem]) (fun hb => ?_) (fun hb => by cases hb)
   (repeat (refine aA q13x2 hX mixed rfl ?_; (simp [go_sem]; try (refine ⟨by kernel_rfl,?_⟩))))
   simp [isNum]
 | cons c r =>
   by_cases hall : (c :: r).all isDigit = true
   · have hk :=(jM isDigit (c :: r)).2 hall
     rw [hk] at hs
     (repeat (refine aA q13x2 hX mixed rfl ?_; (simp [go_sem]; try (refine ⟨by kernel_rfl,?_⟩))))
     first | refine aX (fun hg => hs) ?_ | refine aW (fun hg => hs) ?_
     try (simp [go_sem]; try (refine ⟨by kernel_rfl,?_⟩))
     (repeat (refine aA q13x2 hX mixed rfl ?_; (simp [go_sem]; try (refine ⟨by kernel_rfl,?_⟩))))
     (repeat refine And.intro (by first | omega | (unfold maxLen; omega) | kernel_rfl | (refine ⟨by first | omega | (unfold maxLen; omega),by first | omega | (unfold maxLen; omega)⟩) | grind) ?_)
     refine aC (b :=(decide (c = 48) && !decide (c :: r = [48])) || decide (13 < (c :: r).length)) ?_ (fun hb => ?_) (fun hb => ?_)
     · simp [go_sem,c48]
       by_cases h48 : c = 48 <;> by_cases hr : r = [] <;> simp [h48,hr] <;> omega
     · (repeat (refine aA q13x2 hX mixed rfl ?_; (simp [go_sem]; try (refine ⟨by kernel_rfl,?_⟩))))
       have : isNum (c :: r) = false :=by
        cases h : isNum (c :: r) with
        | false => rfl
        | true =>
          simp only [isNum,Bool.and_eq_true,Bool.or_eq_true,decide_eq_true_eq,bne_iff_ne,beq_iff_eq,List.head?_cons,ne_eq,Option.some.injEq] at h
          simp only [Bool.or_eq_true,Bool.and_eq_true,decide_eq_true_eq,Bool.not_eq_true',decide_eq_false_iff_not] at hb
          rcases hb with hb | hb
          · rcases h.1.1.2 with h2 | h2
            · exact (h2 hb.1).elim
            · exact (hb.2 h2).elim
          · omega
       rw [this]; simp
     · (repeat (refine aA q13x2 hX mixed rfl ?_; (simp [go_sem]; try (refine ⟨by kernel_rfl,?_⟩))))
       simp only [Bool.or_eq_false_iff,decide_eq_false_iff_not,Nat.not_lt] at hb
       have h13 :=hb.2
       have hb2 : ∀ k,k ≤ (c :: r).length → numVal ((c :: r).take k) < 10000000000000 :=fun k hk2 => by
        have h1 :=nQ hall k hk2
        have h2 : 10 ^ k ≤ 10 ^ 13 :=Nat.pow_le_pow_right (by decide) (by omega)
        omega
       have hd : ∀ k (h : k < (c :: r).length),isDigit (c :: r)[k] = true :=fun k h => List.all_eq_true.1 hall _ (List.getElem_mem h)
       generalize hL : c :: r = l at *
       refine aV (fun k : Nat => ⟨mkE [(0,ss l),(2,ii 0),(3,bb false),(4,ii (numVal (l.take k))),(30,ii l.length),(31,ii k)],[]⟩) (fun k => k ≤ l.length) (fun k => l.length - k) 0 ?_ ?_ ?_
       · refine aM _ [] (by simp [go_sem]) ?_
         subst hL
         simp [go_sem,numVal]
       · simp
       · intro k hk3
         (repeat (refine aA q13x2 hX mixed rfl ?_; (simp [go_sem]; try (refine ⟨by kernel_rfl,?_⟩))))
         refine aC (b :=decide (k < l.length)) (by simp [go_sem]) (fun hc => ?_) (fun hc => ?_)
         · simp at hc
           have q1 :=E6 (hd k hc)
           have q2 :=hb2 k hk3
           obtain ⟨q3,q4⟩ :=dig (hd k hc)
           (repeat (refine aA q13x2 hX mixed rfl ?_; (simp [go_sem,hc,q1]; (try simp (disch :=omega) only [w64,td,tm]); try (refine ⟨by kernel_rfl,?_⟩))))
           refine ⟨k + 1,by omega,by omega,?_⟩
           refine aM _ [] (by simp [go_sem]) ?_
           simp [go_sem]
           rw [jX hc]
           omega
         · have hkl : k = l.length :=by simp at hc; omega
           subst hkl
           rw [List.take_length]
           (repeat (refine aA q13x2 hX mixed rfl ?_; (simp [go_sem]; try (refine ⟨by kernel_rfl,?_⟩))))
           refine aC (b :=decide (1099511627776 < numVal l)) (by simp [go_sem]; try omega) (fun hd2 => ?_) (fun hd2 => ?_)
           · (repeat (refine aA q13x2 hX mixed rfl ?_; (simp [go_sem]; try (refine ⟨by kernel_rfl,?_⟩))))
             have : isNum l = false :=by
              cases h : isNum l with
              | false => rfl
              | true =>
                simp only [isNum,Bool.and_eq_true,decide_eq_true_eq] at h
                simp at hd2; omega
             rw [this]; simp
           · (repeat (refine aA q13x2 hX mixed rfl ?_; (simp [go_sem]; try (refine ⟨by kernel_rfl,?_⟩))))
             have : isNum l = true :=by
              subst hL
              simp only [isNum,hall,Bool.and_eq_true,decide_eq_true_eq,List.isEmpty_cons,Bool.not_false,Bool.or_eq_true,bne_iff_ne,beq_iff_eq,List.head?_cons,ne_eq,Option.some.injEq,true_and,and_true]
              refine ⟨⟨?_,by simpa using h13⟩,by simp at hd2; omega⟩
              have :=hb.1
              by_cases h48 : c = 48
              · right; simp [h48] at this; simp [h48,this]
              · exact .inl h48
             rw [this]; simp
   · have hk : ¬ ((c :: r).takeWhile isDigit).length = (c :: r).length :=fun h => hall ((jM isDigit (c :: r)).1 h)
     have hne : ¬ (((c :: r).takeWhile isDigit).length : Int) = ((c :: r).length : Int) :=by omega
     have hl0 : c :: r ≠ [] :=by simp
     generalize hL : c :: r = l at *
     (repeat (refine aA q13x2 hX mixed rfl ?_; (simp [go_sem,hl0]; try (refine ⟨by kernel_rfl,?_⟩))))
     first | refine aX (fun hg => hs) ?_ | refine aW (fun hg => hs) ?_
     try (simp [go_sem,hne]; try (refine ⟨by kernel_rfl,?_⟩))
     (repeat (refine aA q13x2 hX mixed rfl ?_; (simp [go_sem,hne]; try (refine ⟨by kernel_rfl,?_⟩))))
     refine aC (b :=true) (by simp [go_sem,hne]) (fun hb => ?_) (fun hb => by cases hb)
     (repeat (refine aA q13x2 hX mixed rfl ?_; (simp [go_sem]; try (refine ⟨by kernel_rfl,?_⟩))))
     have : isNum l = false :=by
      have h2 : l.all isDigit = false :=Bool.eq_false_iff.2 hall
      simp only [isNum,h2,Bool.and_false,Bool.false_and]
     rw [this]; simp
end Go.Proofs.YtaolljbpencjnaaGreatDoor

namespace Go.Proofs.YtaolljbpencjnaaGreatDoor
open Go.RowKit Go.Ab
attribute [local irreducible] AWP Go.Ab.Sub Means MeansH CallK CallG CallT CallGT
theorem nR (s p : By) (hs : s.length ≤ 100000) : Means true Tryz.prog 158 [ss s,ss p] (bb (p.isPrefixOf s)) :=by
 refine aH true 18 [.tmp 4] Tryz.func158 rfl rfl rfl (by simp) (by decide) rfl fun X hX => ?_
 by_cases hp : p.length ≤ s.length
 · have hd : decide ((p.length : Int) ≤ s.length) = true :=by simp only [decide_eq_true_eq]; omega
   (repeat (refine aA [0,1,4] hX mixed rfl ?_; (simp [go_sem,hd]; try (refine ⟨by kernel_rfl,?_⟩))))
   (repeat refine And.intro (by first | omega | (unfold maxLen; omega) | kernel_rfl | (refine ⟨by first | omega | (unfold maxLen; omega),by first | omega | (unfold maxLen; omega)⟩) | grind) ?_)
   (repeat (refine aA [0,1,4] hX mixed rfl ?_; (simp [go_sem]; try (refine ⟨by kernel_rfl,?_⟩))))
   rw [Bool.eq_iff_iff]
   simp [List.isPrefixOf_iff_prefix,List.prefix_iff_eq_take,hp]
   try (constructor <;> intro h <;> exact h.symm)
 · have hd : decide ((p.length : Int) ≤ s.length) = false :=by simp only [decide_eq_false_iff_not]; omega
   (repeat (refine aA [0,1,4] hX mixed rfl ?_; (simp [go_sem,hd]; try (refine ⟨by kernel_rfl,?_⟩))))
   cases h : p.isPrefixOf s with
   | false => simp; try omega
   | true =>
     rw [List.isPrefixOf_iff_prefix] at h
     exact (hp h.length_le).elim
theorem r9 (s p : By) (hs : s.length ≤ 100000) : Means true Tryz.prog 128 [ss s,ss p] (bb (p.isPrefixOf s)) :=by
 refine aH true 8 [.tmp 4] Tryz.func128 rfl rfl rfl (by simp) (by decide) rfl fun X hX => ?_
 (repeat (refine aA [0,1,4] hX mixed rfl ?_; (simp [go_sem]; try (refine ⟨by kernel_rfl,?_⟩))))
 first | refine aP (nR s p hs) ?_ | refine aQ (nR s p hs) ?_
 try (simp [go_sem]; try (refine ⟨by kernel_rfl,?_⟩))
 (repeat (refine aA [0,1,4] hX mixed rfl ?_; (simp [go_sem]; try (refine ⟨by kernel_rfl,?_⟩))))
theorem nS (c : UInt8) (r : By) (hl : isLetter c = false) (hd : isDigit c = false) : tok (c :: r) = match signs.find? (·.isPrefixOf (c :: r)) with
  | some p => .ok 3 p 0
  | none => .err 11 :=by
 simp only [tok,hl,hd,Bool.false_eq_true,if_false]
 by_cases h61 : c = 61
 · subst h61
   cases r with
   | nil => simp [signs,List.find?_cons,List.isPrefixOf,isSign1]
   | cons d r =>
     by_cases hd61 : d = 61
     · subst hd61; simp [signs,List.find?_cons,List.isPrefixOf]
     · have : ((61 : UInt8) == d) = false :=by simpa using fun h => hd61 h.symm
       simp [signs,List.find?_cons,List.isPrefixOf,isSign1,hd61,this]
 · have h0 : (c == 61) = false :=by simpa using h61
   have h0' : ((61 : UInt8) == c) = false :=by simpa using fun h => h61 h.symm
   simp only [h0,Bool.false_and,Bool.false_eq_true,if_false]
   by_cases h1 : c = 59
   · subst h1; simp [signs,List.find?_cons,List.isPrefixOf,isSign1]
   by_cases h2 : c = 44
   · subst h2; simp [signs,List.find?_cons,List.isPrefixOf,isSign1]
   by_cases h3 : c = 60
   · subst h3; simp [signs,List.find?_cons,List.isPrefixOf,isSign1]
   by_cases h4 : c = 43
   · subst h4; simp [signs,List.find?_cons,List.isPrefixOf,isSign1]
   by_cases h5 : c = 45
   · subst h5; simp [signs,List.find?_cons,List.isPrefixOf,isSign1]
   by_cases h6 : c = 42
   · subst h6; simp [signs,List.find?_cons,List.isPrefixOf,isSign1]
   by_cases h7 : c = 47
   · subst h7; simp [signs,List.find?_cons,List.isPrefixOf,isSign1]
   by_cases h8 : c = 40
   · subst h8; simp [signs,List.find?_cons,List.isPrefixOf,isSign1]
   by_cases h9 : c = 41
   · subst h9; simp [signs,List.find?_cons,List.isPrefixOf,isSign1]
   have e : ∀ k : UInt8,c ≠ k → (k == c) = false :=fun k h => by simpa using fun e => h e.symm
   simp [signs,List.find?_cons,List.isPrefixOf,isSign1,h0',h61,h1,h2,h3,h4,h5,h6,h7,h8,h9,e _ h1,e _ h2,e _ h3,e _ h4,e _ h5,e _ h6,e _ h7,e _ h8,e _ h9]
def tokAV (p : Int) (x : Tok) : AV :=match x with
 | .ok k t n => .tup [tk ⟨k,t,n,p⟩,ii 0]
 | .err e => .tup [tk ⟨0,[],0,0⟩,ii e]
theorem uJ {c : UInt8} {r : By} (hl : isLetter c = true) : isWord ((c :: r).takeWhile isAl) = decide (((c :: r).takeWhile isAl).length ≤ 20) :=by
 have h1 :=z8 isAl (c :: r)
 have h2 : (c :: r).takeWhile isAl = c :: r.takeWhile isAl :=by simp [List.takeWhile_cons,isAl,hl]
 rw [h2] at h1 ⊢
 simp only [isWord,hl,h1,Bool.and_true,Bool.true_and]
set_option maxHeartbeats 2000000 in
set_option maxRecDepth 20000 in
theorem DA (c : UInt8) (r : By) (hlen : (c :: r).length ≤ 100000) : Means true Tryz.prog 95 [ss (c :: r)] (tokAV 0 (tok (c :: r))) :=by
 refine aH true 54 [.cell 2 129,.tmp 3] Tryz.func95 rfl rfl rfl (by simp) (by decide) rfl fun X hX => ?_
 (repeat (refine aA q13x0 hX mixed rfl ?_; (simp [go_sem]; try (refine ⟨by kernel_rfl,?_⟩))))
 first | refine aP (dW c) ?_ | refine aQ (dW c) ?_
 try (simp [go_sem]; try (refine ⟨by kernel_rfl,?_⟩))
 (repeat (refine aA q13x0 hX mixed rfl ?_; (simp [go_sem]; try (refine ⟨by kernel_rfl,?_⟩))))
 refine aC (b :=isLetter c) (by simp [go_sem]) (fun hl => ?_) (fun hl => ?_)
 · have hle :=lR isAl (c :: r)
   have hpre :=iA isAl (c :: r)
   (repeat (refine aA q13x0 hX mixed rfl ?_; (simp [go_sem]; try (refine ⟨by kernel_rfl,?_⟩))))
   first | refine aP (fQ 125 isAl (by simp [go_sem]) C7 (c :: r) hlen) ?_ | refine aQ (fQ 125 isAl (by simp [go_sem]) C7 (c :: r) hlen) ?_
   try (simp [go_sem]; try (refine ⟨by kernel_rfl,?_⟩))
   (repeat refine And.intro (by first | omega | (unfold maxLen; omega) | kernel_rfl | (refine ⟨by first | omega | (unfold maxLen; omega),by first | omega | (unfold maxLen; omega)⟩) | grind) ?_)
   (repeat (refine aA q13x0 hX mixed rfl ?_; (simp [go_sem]; try (refine ⟨by kernel_rfl,?_⟩))))
   rw [← hpre]
   first | refine aP (sG ((c :: r).takeWhile isAl) (by omega)) ?_ | refine aQ (sG ((c :: r).takeWhile isAl) (by omega)) ?_
   try (simp [go_sem]; try (refine ⟨by kernel_rfl,?_⟩))
   (repeat (refine aA q13x0 hX mixed rfl ?_; (simp [go_sem]; try (refine ⟨by kernel_rfl,?_⟩))))
   refine aC (b :=!isWord ((c :: r).takeWhile isAl)) (by simp [go_sem]) (fun hw => ?_) (fun hw => ?_)
   · (repeat (refine aA q13x0 hX mixed rfl ?_; (simp [go_sem]; try (refine ⟨by kernel_rfl,?_⟩))))
     rw [uJ hl] at hw
     simp at hw
     simp [tok,hl,tokAV]
     rw [if_neg (by omega)]
   · (repeat (refine aA q13x0 hX mixed rfl ?_; (simp [go_sem]; try (refine ⟨by kernel_rfl,?_⟩))))
     rw [uJ hl] at hw
     simp at hw
     simp [tok,hl,tokAV]
     rw [if_pos (by omega)]
 · (repeat (refine aA q13x0 hX mixed rfl ?_; (simp [go_sem]; try (refine ⟨by kernel_rfl,?_⟩))))
   first | refine aP (eC c) ?_ | refine aQ (eC c) ?_
   try (simp [go_sem]; try (refine ⟨by kernel_rfl,?_⟩))
   (repeat (refine aA q13x0 hX mixed rfl ?_; (simp [go_sem]; try (refine ⟨by kernel_rfl,?_⟩))))
   refine aC (b :=isDigit c) (by simp [go_sem]) (fun hd => ?_) (fun hd => ?_)
   · have hle :=lR isDigit (c :: r)
     have hpre :=iA isDigit (c :: r)
     (repeat (refine aA q13x0 hX mixed rfl ?_; (simp [go_sem]; try (refine ⟨by kernel_rfl,?_⟩))))
     first | refine aP (fQ 126 isDigit (by simp [go_sem]) eC (c :: r) hlen) ?_ | refine aQ (fQ 126 isDigit (by simp [go_sem]) eC (c :: r) hlen) ?_
     try (simp [go_sem]; try (refine ⟨by kernel_rfl,?_⟩))
     (repeat refine And.intro (by first | omega | (unfold maxLen; omega) | kernel_rfl | (refine ⟨by first | omega | (unfold maxLen; omega),by first | omega | (unfold maxLen; omega)⟩) | grind) ?_)
     (repeat (refine aA q13x0 hX mixed rfl ?_; (simp [go_sem]; try (refine ⟨by kernel_rfl,?_⟩))))
     rw [← hpre]
     first | refine aP (r8 ((c :: r).takeWhile isDigit) (by omega)) ?_ | refine aQ (r8 ((c :: r).takeWhile isDigit) (by omega)) ?_
     try (simp [go_sem]; try (refine ⟨by kernel_rfl,?_⟩))
     (repeat (refine aA q13x0 hX mixed rfl ?_; (simp [go_sem]; try (refine ⟨by kernel_rfl,?_⟩))))
     refine aC (b :=!isNum ((c :: r).takeWhile isDigit)) (by simp [go_sem]) (fun hw => ?_) (fun hw => ?_)
     · (repeat (refine aA q13x0 hX mixed rfl ?_; (simp [go_sem]; try (refine ⟨by kernel_rfl,?_⟩))))
       simp only [Bool.not_eq_true'] at hw
       rw [show tok (c :: r) = .err 3 by simp only [tok,hl,hd,hw,Bool.false_eq_true,if_false,if_true]]
       simp [tokAV]
     · (repeat (refine aA q13x0 hX mixed rfl ?_; (simp [go_sem]; try (refine ⟨by kernel_rfl,?_⟩))))
       simp only [Bool.not_eq_false'] at hw
       rw [show tok (c :: r) = .ok 2 ((c :: r).takeWhile isDigit) (numVal ((c :: r).takeWhile isDigit)) by simp only [tok,hl,hd,hw,Bool.false_eq_true,if_false,if_true]]
       simp only [hw,if_true,tokAV]
   · (repeat (refine aA q13x0 hX mixed rfl ?_; (simp [go_sem]; try (refine ⟨by kernel_rfl,?_⟩))))
     refine ⟨by decide,fun e he id hid => ?_,?_⟩
     · obtain ⟨p,_,rfl⟩ :=List.mem_map.1 (List.mem_of_mem_take he)
       simp [AV.idB] at hid
     (repeat (refine aA q13x0 hX mixed rfl ?_; (simp [go_sem]; try (refine ⟨by kernel_rfl,?_⟩))))
     refine aV (fun k : Nat => ⟨mkE [(0,ss (c :: r)),(2,.el 0 4 0 0),(3,ii 0),(43,.agg (signs.map ss)),(44,ii k)],[.row ⟨129,4,[tk ⟨0,[],0,0⟩]⟩]⟩) (fun k => k ≤ 11 ∧ ∀ j (h : j < signs.length),j < k → signs[j].isPrefixOf (c :: r) = false) (fun k => 11 - k) 0 ?_ ?_ ?_
     · refine aM _ [.old 0 ⟨129,4,[tk ⟨0,[],0,0⟩]⟩] (by simp [go_sem]) ?_
       simp [go_sem,signs]
     · simp
     · rintro k ⟨hk,hn⟩
       (repeat (refine aA q13x0 hX mixed rfl ?_; (simp [go_sem]; try (refine ⟨by kernel_rfl,?_⟩))))
       refine aC (b :=decide (k < 11)) (by simp [go_sem]; try omega) (fun hb => ?_) (fun hb => ?_)
       · simp at hb
         have hks : k < signs.length :=hb
         (repeat (refine aA q13x0 hX mixed rfl ?_; (simp [go_sem,hks]; try (refine ⟨by kernel_rfl,?_⟩))))
         (repeat refine And.intro (by first | omega | (unfold maxLen; omega) | kernel_rfl | (refine ⟨by first | omega | (unfold maxLen; omega),by first | omega | (unfold maxLen; omega)⟩) | grind) ?_)
         (repeat (refine aA q13x0 hX mixed rfl ?_; (simp [go_sem,hks]; try (refine ⟨by kernel_rfl,?_⟩))))
         first | refine aP (r9 (c :: r) signs[k] hlen) ?_ | refine aQ (r9 (c :: r) signs[k] hlen) ?_
         try (simp [go_sem]; try (refine ⟨by kernel_rfl,?_⟩))
         (repeat (refine aA q13x0 hX mixed rfl ?_; (simp [go_sem]; try (refine ⟨by kernel_rfl,?_⟩))))
         refine aC (b :=signs[k].isPrefixOf (c :: r)) (by simp [go_sem]) (fun hp => ?_) (fun hp => ?_)
         · (repeat (refine aA q13x0 hX mixed rfl ?_; (simp [go_sem]; try (refine ⟨by kernel_rfl,?_⟩))))
           have : signs.find? (·.isPrefixOf (c :: r)) = some signs[k] :=List.find?_eq_some_iff_getElem.2 ⟨hp,k,hks,rfl,fun j hj => by simp [hn j (by omega) hj]⟩
           rw [nS c r hl hd,this]
           simp [tokAV]
         · (repeat (refine aA q13x0 hX mixed rfl ?_; (simp [go_sem]; (try simp (disch :=omega) only [w64,td,tm]); try (refine ⟨by kernel_rfl,?_⟩))))
           refine ⟨k + 1,⟨by omega,fun j h1 h2 => ?_⟩,by omega,?_⟩
           · by_cases hjk : j = k
             · subst hjk; exact hp
             · exact hn j h1 (by omega)
           · refine aM _ [.old 0 ⟨129,4,[tk ⟨0,[],0,0⟩]⟩] (by simp [go_sem]) ?_
             simp [go_sem]
       · have hk11 : k = 11 :=by simp at hb; omega
         subst hk11
         (repeat (refine aA q13x0 hX mixed rfl ?_; (simp [go_sem]; try (refine ⟨by kernel_rfl,?_⟩))))
         have : signs.find? (·.isPrefixOf (c :: r)) = none :=by
          rw [List.find?_eq_none]
          intro p hp
          obtain ⟨j,hj,rfl⟩ :=List.getElem_of_mem hp
          simp [hn j hj hj]
         rw [nS c r hl hd,this]
         simp [tokAV]
end Go.Proofs.YtaolljbpencjnaaGreatDoor

namespace Go.Proofs.YtaolljbpencjnaaGreatDoor
open Go.RowKit Go.Ab
attribute [local irreducible] AWP Go.Ab.Sub Means MeansH CallK CallG CallT CallGT
def Lx.pre (ts : List Tk) : Lx → Lx
 | .ok us => .ok (ts ++ us)
 | .err i e => .err i e
theorem nU : ∀ (l : By) (p : Nat),lexA l p = lexA (l.drop (l.takeWhile isBlank).length) (p + (l.takeWhile isBlank).length)
 | [],p => by simp
 | c :: l,p => by
   simp only [List.takeWhile_cons]
   split
   · rename_i h
     rw [dN h,nU l]
     simp only [List.length_cons,List.drop_succ_cons]
     rw [show p + 1 + (l.takeWhile isBlank).length = p + ((l.takeWhile isBlank).length + 1) by omega]
   · simp
theorem uK (f : UInt8 → Bool) : ∀ (l : By) (c : UInt8) (r : By),l.drop (l.takeWhile f).length = c :: r → f c = false
 | [],c,r,h => by simp at h
 | d :: l,c,r,h => by
   simp only [List.takeWhile_cons] at h
   split at h
   · simp only [List.length_cons,List.drop_succ_cons] at h
     exact uK f l c r h
   · rename_i hd
     simp at h
     rw [← h.1]; simpa using hd
def lexAV (l : By) : AV :=if 2000 < l.length then .tup [.sl [],ii 0,ii 6] else match lexA l 0 with
 | .err i e => .tup [.sl [],ii i,ii e]
 | .ok ts => .tup [.sl (ts.map tk),ii 0,ii 0]
theorem w9 {l : By} (hb : l.length ≤ 2000) {i : Nat} {e : Int} (h : lexA l 0 = .err i e) : lexAV l = .tup [.sl [],ii i,ii e] :=by rw [lexAV,if_neg (by omega),h]
theorem yT {l : By} (hb : l.length ≤ 2000) {ts : List Tk} (h : lexA l 0 = .ok ts) : lexAV l = .tup [.sl (ts.map tk),ii 0,ii 0] :=by rw [lexAV,if_neg (by omega),h]
set_option maxHeartbeats 2000000 in
set_option maxRecDepth 20000 in
theorem E2 (l : By) : Means true Tryz.prog 52 [ss l] (lexAV l) :=by
 refine aH true 49 [.tmp 2,.tmp 3,.tmp 4] Tryz.func52 rfl rfl rfl (by simp) (by decide) rfl fun X hX => ?_
 (repeat (refine aA q13x1 hX mixed rfl ?_; (simp [go_sem]; try (refine ⟨by kernel_rfl,?_⟩))))
 refine aC (b :=decide (2000 < l.length)) (by simp [go_sem]; try omega) (fun hb => ?_) (fun hb => ?_)
 · (repeat (refine aA q13x1 hX mixed rfl ?_; (simp [go_sem]; try (refine ⟨by kernel_rfl,?_⟩))))
   simp at hb
   simp [lexAV,hb]
 · simp at hb
   have hav : lexAV l = match lexA l 0 with
    | .err i e => .tup [.sl [],ii i,ii e]
    | .ok ts => .tup [.sl (ts.map tk),ii 0,ii 0] :=by rw [lexAV,if_neg (by omega)]
   (repeat (refine aA q13x1 hX mixed rfl ?_; (simp [go_sem]; try (refine ⟨by kernel_rfl,?_⟩))))
   refine aV (fun x : Nat × List Tk => ⟨mkE [(0,ss l),(5,.ow 0),(6,ii x.1)],[.row ⟨129,4,x.2.map tk⟩]⟩) (fun x => x.1 ≤ l.length ∧ x.2.length ≤ x.1 ∧ lexA l 0 = (lexA (l.drop x.1) x.1).pre x.2) (fun x => l.length - x.1) (0,[]) ?_ ?_ ?_
   · refine aM _ [.birth 129 4] (by simp [go_sem]) ?_
     simp [go_sem]
   · refine ⟨by simp,by simp,?_⟩
     simp only [List.drop_zero]
     cases lexA l 0 <;> simp [Lx.pre]
   · rintro ⟨p,ts⟩ ⟨hp,hts,hI⟩
     simp only [] at hp hts hI
     rw [nU (l.drop p)] at hI
     have hle :=lR isBlank (l.drop p)
     rw [List.length_drop] at hle
     have hbl :=uK isBlank (l.drop p)
     rw [List.drop_drop] at hI hbl
     obtain ⟨q,hq⟩ : ∃ q,q = p + ((l.drop p).takeWhile isBlank).length :=⟨_,rfl⟩
     have hcast : (p : Int) + (((l.drop p).takeWhile isBlank).length : Int) = (q : Int) :=by omega
     rw [← hq] at hI hbl
     (repeat (refine aA q13x1 hX mixed rfl ?_; (simp [go_sem]; try (refine ⟨by kernel_rfl,?_⟩))))
     (repeat refine And.intro (by first | omega | (unfold maxLen; omega) | kernel_rfl | (refine ⟨by first | omega | (unfold maxLen; omega),by first | omega | (unfold maxLen; omega)⟩) | grind) ?_)
     (repeat (refine aA q13x1 hX mixed rfl ?_; (simp [go_sem]; try (refine ⟨by kernel_rfl,?_⟩))))
     first | refine aP (fQ 94 isBlank (by simp [go_sem]) uI (l.drop p) (by rw [List.length_drop]; omega)) ?_ | refine aQ (fQ 94 isBlank (by simp [go_sem]) uI (l.drop p) (by rw [List.length_drop]; omega)) ?_
     try (simp [go_sem]; try (refine ⟨by kernel_rfl,?_⟩))
     (repeat (refine aA q13x1 hX mixed rfl ?_; (simp [go_sem,hcast]; (try simp (disch :=omega) only [w64,td,tm]); try (refine ⟨by kernel_rfl,?_⟩))))
     refine aC (b :=decide (q = l.length)) (by simp [go_sem]; try omega) (fun hc => ?_) (fun hc => ?_)
     · simp at hc
       have hr : lexA l 0 = .ok (ts ++ [⟨0,[],0,q⟩]) :=by rw [hI,hc,List.drop_length,eZ]; rfl
       rw [hav,hr]
       (repeat (refine aA q13x1 hX mixed rfl ?_; (simp [go_sem]; try (refine ⟨by kernel_rfl,?_⟩))))
       (repeat refine And.intro (by first | omega | (unfold maxLen; omega) | kernel_rfl | (refine ⟨by first | omega | (unfold maxLen; omega),by first | omega | (unfold maxLen; omega)⟩) | grind) ?_)
       (repeat (refine aA q13x1 hX mixed rfl ?_; (simp [go_sem]; try (refine ⟨by kernel_rfl,?_⟩))))
     · simp at hc
       have hql : q < l.length :=by omega
       obtain ⟨c,r,hcr⟩ : ∃ c r,l.drop q = c :: r :=⟨l[q],l.drop (q + 1),List.drop_eq_getElem_cons hql⟩
       have hbc :=hbl c r hcr
       have hlen : (c :: r).length ≤ 100000 :=by rw [← hcr,List.length_drop]; omega
       have hn : Means true Tryz.prog 95 [ss (l.drop q)] (tokAV 0 (tok (c :: r))) :=by rw [hcr]; exact DA c r hlen
       rw [hcr] at hI
       (repeat (refine aA q13x1 hX mixed rfl ?_; (simp [go_sem]; try (refine ⟨by kernel_rfl,?_⟩))))
       (repeat refine And.intro (by first | omega | (unfold maxLen; omega) | kernel_rfl | (refine ⟨by first | omega | (unfold maxLen; omega),by first | omega | (unfold maxLen; omega)⟩) | grind) ?_)
       (repeat (refine aA q13x1 hX mixed rfl ?_; (simp [go_sem]; try (refine ⟨by kernel_rfl,?_⟩))))
       cases ht : tok (c :: r) with
       | err e =>
         rw [ht] at hn
         have he : e ≠ 0 :=by rcases qX ht with h | h | h <;> omega
         have hr : lexA l 0 = .err q e :=by rw [hI,f9 hbc ht]; rfl
         rw [hav,hr]
         first | refine aP (hn) ?_ | refine aQ (hn) ?_
         try (simp [go_sem,tokAV]; try (refine ⟨by kernel_rfl,?_⟩))
         (repeat (refine aA q13x1 hX mixed rfl ?_; (simp [go_sem]; try (refine ⟨by kernel_rfl,?_⟩))))
         refine aC (b :=true) (by simp [go_sem,he]) (fun _ => ?_) (fun h => by cases h)
         (repeat (refine aA q13x1 hX mixed rfl ?_; (simp [go_sem]; try (refine ⟨by kernel_rfl,?_⟩))))
       | ok k t n =>
         rw [ht] at hn
         obtain ⟨t1,t2,t3⟩ :=dG ht
         rw [← hcr,List.length_drop] at t2
         rw [gO hbc ht,← hcr,List.drop_drop] at hI
         first | refine aP (hn) ?_ | refine aQ (hn) ?_
         try (simp [go_sem,tokAV]; try (refine ⟨by kernel_rfl,?_⟩))
         (repeat (refine aA q13x1 hX mixed rfl ?_; (simp [go_sem]; try (refine ⟨by kernel_rfl,?_⟩))))
         refine aC (b :=false) (by simp [go_sem]) (fun h => by cases h) (fun _ => ?_)
         (repeat (refine aA q13x1 hX mixed rfl ?_; (simp [go_sem]; try (refine ⟨by kernel_rfl,?_⟩))))
         (repeat refine And.intro (by first | omega | (unfold maxLen; omega) | kernel_rfl | (refine ⟨by first | omega | (unfold maxLen; omega),by first | omega | (unfold maxLen; omega)⟩) | grind) ?_)
         (repeat (refine aA q13x1 hX mixed rfl ?_; (simp [go_sem]; (try simp (disch :=omega) only [w64,td,tm]); try (refine ⟨by kernel_rfl,?_⟩))))
         refine ⟨q + t.length,ts ++ [⟨k,t,n,q⟩],⟨by omega,by simp; omega,?_⟩,by omega,?_⟩
         · rw [hI]
           cases lexA (l.drop (q + t.length)) (q + t.length) <;> simp [Lx.cons,Lx.pre]
         · refine aM _ [.old 3 ⟨129,4,(ts ++ [(⟨k,t,n,q⟩ : Tk)]).map tk⟩] (by simp [go_sem]) ?_
           simp [go_sem]
end Go.Proofs.YtaolljbpencjnaaGreatDoor

namespace Go.Proofs.YtaolljbpencjnaaGreatDoor
open Go.RowKit Go.Ab
def E.op : E → Int
 | .num _ _ => 0
 | .nam _ => 1
 | .un _ => 12
 | .bin o _ _ => o
 | .ite _ _ _ => 13
def E.n : E → Int
 | .num n _ => n
 | _ => 0
def E.u : E → Int
 | .num _ u => u
 | _ => 0
def E.s : E → By
 | .nam s => s
 | _ => []
def E.kids : E → List E
 | .num _ _ | .nam _ => []
 | .un a => [a]
 | .bin _ a b => [a,b]
 | .ite a b c => [a,b,c]
def E.args : E → List AV
 | .num _ _ | .nam _ => []
 | .un a => [.agg [ii a.op,ii a.n,ii a.u,ss a.s,.sl a.args]]
 | .bin _ a b => [.agg [ii a.op,ii a.n,ii a.u,ss a.s,.sl a.args],.agg [ii b.op,ii b.n,ii b.u,ss b.s,.sl b.args]]
 | .ite a b c => [.agg [ii a.op,ii a.n,ii a.u,ss a.s,.sl a.args],.agg [ii b.op,ii b.n,ii b.u,ss b.s,.sl b.args],.agg [ii c.op,ii c.n,ii c.u,ss c.s,.sl c.args]]
@[go_sem] theorem E.op_num (n u : Int) : E.op (.num n u) = 0 :=rfl
@[go_sem] theorem E.n_num (n u : Int) : E.n (.num n u) = n :=rfl
@[go_sem] theorem E.u_num (n u : Int) : E.u (.num n u) = u :=rfl
@[go_sem] theorem E.s_num (n u : Int) : E.s (.num n u) = [] :=rfl
@[go_sem] theorem E.args_num (n u : Int) : E.args (.num n u) = [] :=rfl
@[go_sem] theorem E.op_nam (s : By) : E.op (.nam s) = 1 :=rfl
@[go_sem] theorem E.n_nam (s : By) : E.n (.nam s) = 0 :=rfl
@[go_sem] theorem E.u_nam (s : By) : E.u (.nam s) = 0 :=rfl
@[go_sem] theorem E.s_nam (s : By) : E.s (.nam s) = s :=rfl
@[go_sem] theorem E.args_nam (s : By) : E.args (.nam s) = [] :=rfl
@[go_sem] theorem E.op_un (a : E) : E.op (.un a) = 12 :=rfl
@[go_sem] theorem E.n_un (a : E) : E.n (.un a) = 0 :=rfl
@[go_sem] theorem E.u_un (a : E) : E.u (.un a) = 0 :=rfl
@[go_sem] theorem E.s_un (a : E) : E.s (.un a) = [] :=rfl
@[go_sem] theorem E.args_un (a : E) : E.args (.un a) = [.agg [ii a.op,ii a.n,ii a.u,ss a.s,.sl a.args]] :=rfl
@[go_sem] theorem E.op_bin (o : Int) (a b : E) : E.op (.bin o a b) = o :=rfl
@[go_sem] theorem E.n_bin (o : Int) (a b : E) : E.n (.bin o a b) = 0 :=rfl
@[go_sem] theorem E.u_bin (o : Int) (a b : E) : E.u (.bin o a b) = 0 :=rfl
@[go_sem] theorem E.s_bin (o : Int) (a b : E) : E.s (.bin o a b) = [] :=rfl
@[go_sem] theorem E.args_bin (o : Int) (a b : E) : E.args (.bin o a b) = [.agg [ii a.op,ii a.n,ii a.u,ss a.s,.sl a.args],.agg [ii b.op,ii b.n,ii b.u,ss b.s,.sl b.args]] :=rfl
@[go_sem] theorem E.op_ite (a b c : E) : E.op (.ite a b c) = 13 :=rfl
@[go_sem] theorem E.n_ite (a b c : E) : E.n (.ite a b c) = 0 :=rfl
@[go_sem] theorem E.u_ite (a b c : E) : E.u (.ite a b c) = 0 :=rfl
@[go_sem] theorem E.s_ite (a b c : E) : E.s (.ite a b c) = [] :=rfl
@[go_sem] theorem E.args_ite (a b c : E) : E.args (.ite a b c) = [.agg [ii a.op,ii a.n,ii a.u,ss a.s,.sl a.args],.agg [ii b.op,ii b.n,ii b.u,ss b.s,.sl b.args],.agg [ii c.op,ii c.n,ii c.u,ss c.s,.sl c.args]] :=rfl
abbrev ex (e : E) : AV :=.agg [ii e.op,ii e.n,ii e.u,ss e.s,.sl e.args]
theorem gK (e : E) : e.args = e.kids.map ex :=by cases e <;> rfl
abbrev pst (ts : List Tk) (i : Nat) : Cell :=.row ⟨119,2,[.agg [.sl (ts.map tk),ii i]]⟩
abbrev pp : AV :=.el 0 2 0 0
abbrev stopV (p e : Int) : Value :=.iface 121 (.agg #[.int .i64 p,.int .i64 e])
def outP {α : Type} (r : Pr α) (g : α → AV) (ts : List Tk) (R : List Cell) : Value ⊕ AV × List Cell :=match r with
 | .ok x j => .inr (g x,pst ts j :: R)
 | .no p e => .inl (stopV p e)
theorem aN {f : FuncId} {H : List Cell} {args : List AV} {α : Type} {r : Pr α} {g : α → AV} {ts : List Tk} {R : List Cell} (h : OutH Tryz.prog f H args (outP r g ts R)) {x : α} {j : Nat} (e : r = .ok x j) : MeansH Tryz.prog f H args (g x) (pst ts j :: R) :=by subst e; exact h
theorem aT {f : FuncId} {H : List Cell} {args : List AV} {α : Type} {r : Pr α} {g : α → AV} {ts : List Tk} {R : List Cell} (h : OutH Tryz.prog f H args (outP r g ts R)) {p q : Int} (e : r = .no p q) : PanicH Tryz.prog f H args (stopV p q) :=by subst e; exact h
@[go_sem] theorem bB {rs : List ResultVar} {m : Nat} {α : Type} (x : α) (j : Nat) (g : α → AV) (ts : List Tk) (R : List Cell) : outQ Tryz.prog rs m (outP (.ok x j) g ts R) = retH Tryz.prog rs m (g x) (pst ts j :: R) :=rfl
@[go_sem] theorem outQ_pn {rs : List ResultVar} {m : Nat} {α : Type} (p e : Int) (g : α → AV) (ts : List Tk) (R : List Cell) : outQ Tryz.prog rs m (outP (.no p e) g ts R) = panQ (stopV p e) :=rfl
theorem CT {ts : List Tk} {i : Nat} (hi : i < ts.length) : ts[i] = nx ts i :=by simp [nx,List.getD_eq_getElem?_getD,hi]
end Go.Proofs.YtaolljbpencjnaaGreatDoor

