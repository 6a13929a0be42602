/-
  Lemmas for the statement at the top.
-/
import Derived.Test.YtaolljbpencjnaaGreatDoorTP15
import Derived.Test.YtaolljbpencjnaaGreatDoorTP14
import Derived.Test.YtaolljbpencjnaaGreatDoorTP10
import Derived.Test.YtaolljbpencjnaaGreatDoorRows
import Derived.Test.YtaolljbpencjnaaGreatDoorTFw5
import Derived.Test.YtaolljbpencjnaaGreatDoorTP9
set_option linter.all false
namespace Go.Ab
def q11x0 : List Nat :=[0,1,2,3,8,9,10,13,14,15,16,17,18,19,20,21,22,23,24,25,26,36,51,115,166]
def q11x1 : List Nat :=[0,1,4,5,6,8,9,10,12,13,16,17,18,19,20,32,33,34,35,39,47,51]
def q11x2 : List Nat :=[0,1,2,6,7,8,10,13,15,16,17,18,37]
def q11x3 : List Nat :=[0,2,3,4,12,13,14,15,16,32]
def q11x4 : List Nat :=[0,1,2,3,4,5,6,10,11,12,22,26,35,56,85]
def q11x5 : List Nat :=[0,1,3,4,5,6,7,8,55]
def q11x6 : List Nat :=[0,1,4,5,7,8,9,16]
def q11x7 : List Nat :=[0,1,2,3,6,7,8,26]
def q11x8 : List Nat :=[0,1,2,4,5,6,7,13,23]
attribute [go_sem] q11x0 q11x1 q11x2 q11x3 q11x4 q11x5 q11x6 q11x7 q11x8
end Go.Ab
namespace Go.Proofs.YtaolljbpencjnaaGreatDoor
open Go.RowKit Go.Ab
attribute [local irreducible] AWP Go.Ab.Sub Means MeansH CallK CallG CallT CallGT PanicH DefH CallU
theorem w1' : IntKind.i64.wrap 1 = 1 :=by decide
theorem zF : Means true Tryz.prog 114 [il [],ii 1] (ii (-1)) :=by
 refine aH true 19 [.tmp 4] Tryz.func114 rfl rfl rfl (by simp) (by decide) rfl fun X hX => ?_
 (repeat (refine aA q11x6 hX mixed rfl ?_; (simp [go_sem]; try (refine ⟨by kernel_rfl,?_⟩))))
 refine bU 0 ?_
 (repeat (refine aA q11x6 hX mixed rfl ?_; (simp [go_sem,w1']; try (refine ⟨by kernel_rfl,?_⟩)))); (repeat (first | (refine aI ?_ ?_; (focus (simp [go_sem,w1']; done)); (repeat (refine aA q11x6 hX mixed rfl ?_; (simp [go_sem,w1']; try (refine ⟨by kernel_rfl,?_⟩))))) | (refine aG ?_ ?_; (focus (simp [go_sem,w1']; done)); (repeat (refine aA q11x6 hX mixed rfl ?_; (simp [go_sem,w1']; try (refine ⟨by kernel_rfl,?_⟩)))))))
theorem zG : Means true Tryz.prog 114 [il [1],ii 1] (ii 0) :=by
 refine aH true 19 [.tmp 4] Tryz.func114 rfl rfl rfl (by simp) (by decide) rfl fun X hX => ?_
 (repeat (refine aA q11x6 hX mixed rfl ?_; (simp [go_sem]; try (refine ⟨by kernel_rfl,?_⟩))))
 refine bU 1 ?_
 (repeat (refine aA q11x6 hX mixed rfl ?_; (simp [go_sem,w1']; try (refine ⟨by kernel_rfl,?_⟩)))); (repeat (first | (refine aI ?_ ?_; (focus (simp [go_sem,w1']; done)); (repeat (refine aA q11x6 hX mixed rfl ?_; (simp [go_sem,w1']; try (refine ⟨by kernel_rfl,?_⟩))))) | (refine aG ?_ ?_; (focus (simp [go_sem,w1']; done)); (repeat (refine aA q11x6 hX mixed rfl ?_; (simp [go_sem,w1']; try (refine ⟨by kernel_rfl,?_⟩)))))))
theorem pD : Means true Tryz.prog 80 [il [],ii 1] (bb false) :=by
 refine aH true 9 [.tmp 4] Tryz.func80 rfl rfl rfl (by simp) (by decide) rfl fun X hX => ?_
 (repeat (refine aA [0,1,4] hX mixed rfl ?_; (simp [go_sem]; try (refine ⟨by kernel_rfl,?_⟩))))
 first | refine aP (zF) ?_ | refine aQ (zF) ?_
 try (simp [go_sem]; try (refine ⟨by kernel_rfl,?_⟩))
 (repeat (refine aA [0,1,4] hX mixed rfl ?_; (simp [go_sem]; try (refine ⟨by kernel_rfl,?_⟩))))
theorem zH : Means true Tryz.prog 80 [il [1],ii 1] (bb true) :=by
 refine aH true 9 [.tmp 4] Tryz.func80 rfl rfl rfl (by simp) (by decide) rfl fun X hX => ?_
 (repeat (refine aA [0,1,4] hX mixed rfl ?_; (simp [go_sem]; try (refine ⟨by kernel_rfl,?_⟩))))
 first | refine aP (zG) ?_ | refine aQ (zG) ?_
 try (simp [go_sem]; try (refine ⟨by kernel_rfl,?_⟩))
 (repeat (refine aA [0,1,4] hX mixed rfl ?_; (simp [go_sem]; try (refine ⟨by kernel_rfl,?_⟩))))
set_option maxHeartbeats 4000000 in
theorem qZ : Means true Tryz.prog 116 [il [1]] (bb true) :=by
 refine aH true 34 [.tmp 2] Tryz.func116 rfl rfl rfl (by simp) (by decide) rfl fun X hX => ?_
 (repeat (refine aA q11x3 hX mixed rfl ?_; (simp [go_sem,w1']; try (refine ⟨by kernel_rfl,?_⟩)))); (repeat (first | (refine aI ?_ ?_; (focus (simp [go_sem,w1']; done)); (repeat (refine aA q11x3 hX mixed rfl ?_; (simp [go_sem,w1']; try (refine ⟨by kernel_rfl,?_⟩))))) | (refine aG ?_ ?_; (focus (simp [go_sem,w1']; done)); (repeat (refine aA q11x3 hX mixed rfl ?_; (simp [go_sem,w1']; try (refine ⟨by kernel_rfl,?_⟩)))))))
 refine bU 1 ?_
 (repeat (refine aA q11x3 hX mixed rfl ?_; (simp [go_sem,w1']; try (refine ⟨by kernel_rfl,?_⟩)))); (repeat (first | (refine aI ?_ ?_; (focus (simp [go_sem,w1']; done)); (repeat (refine aA q11x3 hX mixed rfl ?_; (simp [go_sem,w1']; try (refine ⟨by kernel_rfl,?_⟩))))) | (refine aG ?_ ?_; (focus (simp [go_sem,w1']; done)); (repeat (refine aA q11x3 hX mixed rfl ?_; (simp [go_sem,w1']; try (refine ⟨by kernel_rfl,?_⟩)))))))
 first | refine aX (fun hg => pD) ?_ | refine aW (fun hg => pD) ?_
 try (simp [go_sem]; try (refine ⟨by kernel_rfl,?_⟩))
 (repeat (refine aA q11x3 hX mixed rfl ?_; (simp [go_sem,w1']; try (refine ⟨by kernel_rfl,?_⟩)))); (repeat (first | (refine aI ?_ ?_; (focus (simp [go_sem,w1']; done)); (repeat (refine aA q11x3 hX mixed rfl ?_; (simp [go_sem,w1']; try (refine ⟨by kernel_rfl,?_⟩))))) | (refine aG ?_ ?_; (focus (simp [go_sem,w1']; done)); (repeat (refine aA q11x3 hX mixed rfl ?_; (simp [go_sem,w1']; try (refine ⟨by kernel_rfl,?_⟩)))))))
set_option maxHeartbeats 4000000 in
theorem r4 : Means true Tryz.prog 141 [il [1]] (bb true) :=by
 refine aH true 34 [.tmp 2] Tryz.func141 rfl rfl rfl (by simp) (by decide) rfl fun X hX => ?_
 (repeat (refine aA q11x3 hX mixed rfl ?_; (simp [go_sem,w1']; try (refine ⟨by kernel_rfl,?_⟩)))); (repeat (first | (refine aI ?_ ?_; (focus (simp [go_sem,w1']; done)); (repeat (refine aA q11x3 hX mixed rfl ?_; (simp [go_sem,w1']; try (refine ⟨by kernel_rfl,?_⟩))))) | (refine aG ?_ ?_; (focus (simp [go_sem,w1']; done)); (repeat (refine aA q11x3 hX mixed rfl ?_; (simp [go_sem,w1']; try (refine ⟨by kernel_rfl,?_⟩)))))))
 refine bU 1 ?_
 (repeat (refine aA q11x3 hX mixed rfl ?_; (simp [go_sem,w1']; try (refine ⟨by kernel_rfl,?_⟩)))); (repeat (first | (refine aI ?_ ?_; (focus (simp [go_sem,w1']; done)); (repeat (refine aA q11x3 hX mixed rfl ?_; (simp [go_sem,w1']; try (refine ⟨by kernel_rfl,?_⟩))))) | (refine aG ?_ ?_; (focus (simp [go_sem,w1']; done)); (repeat (refine aA q11x3 hX mixed rfl ?_; (simp [go_sem,w1']; try (refine ⟨by kernel_rfl,?_⟩)))))))
 first | refine aX (fun hg => pD) ?_ | refine aW (fun hg => pD) ?_
 try (simp [go_sem]; try (refine ⟨by kernel_rfl,?_⟩))
 (repeat (refine aA q11x3 hX mixed rfl ?_; (simp [go_sem,w1']; try (refine ⟨by kernel_rfl,?_⟩)))); (repeat (first | (refine aI ?_ ?_; (focus (simp [go_sem,w1']; done)); (repeat (refine aA q11x3 hX mixed rfl ?_; (simp [go_sem,w1']; try (refine ⟨by kernel_rfl,?_⟩))))) | (refine aG ?_ ?_; (focus (simp [go_sem,w1']; done)); (repeat (refine aA q11x3 hX mixed rfl ?_; (simp [go_sem,w1']; try (refine ⟨by kernel_rfl,?_⟩)))))))
abbrev voE : AV :=.agg [ii 0,ii 1,bb true,ii 0]
@[go_sem] theorem keyEq_ii (a b : Int) : keyEq Tryz.prog 3 (ii a) (ii b) = some (decide (a = b)) :=by
  simp only [keyEq,tk3,eqV,if_true]
  rw [E3]
@[go_sem] theorem look_no : lookA Tryz.prog 3 4 (ii 1) [] false = some (bb false) :=by
  simp only [lookA,findA,tk4]
  rfl
set_option maxHeartbeats 4000000 in
theorem nO : Means true Tryz.prog 117 [il [1],.sl [voE],ii 0] (.sl [voE]) :=by
 have hu : updA Tryz.prog 3 (ii 1) (bb true) [] = some [(ii 1,bb true)] :=rfl
 refine aH true 47 [.tmp 6] Tryz.func117 rfl rfl rfl (by simp) (by decide) rfl fun X hX => ?_
 (repeat (refine aA q11x2 hX mixed rfl ?_; (simp [go_sem,w1']; try (refine ⟨by kernel_rfl,?_⟩)))); (repeat (first | (refine aI ?_ ?_; (focus (simp [go_sem,w1']; done)); (repeat (refine aA q11x2 hX mixed rfl ?_; (simp [go_sem,w1']; try (refine ⟨by kernel_rfl,?_⟩))))) | (refine aG ?_ ?_; (focus (simp [go_sem,w1']; done)); (repeat (refine aA q11x2 hX mixed rfl ?_; (simp [go_sem,w1']; try (refine ⟨by kernel_rfl,?_⟩)))))))
 first | refine aP (r4) ?_ | refine aQ (r4) ?_
 try (simp [go_sem]; try (refine ⟨by kernel_rfl,?_⟩))
 (repeat (refine aA q11x2 hX mixed rfl ?_; (simp [go_sem,w1']; try (refine ⟨by kernel_rfl,?_⟩)))); (repeat (first | (refine aI ?_ ?_; (focus (simp [go_sem,w1']; done)); (repeat (refine aA q11x2 hX mixed rfl ?_; (simp [go_sem,w1']; try (refine ⟨by kernel_rfl,?_⟩))))) | (refine aG ?_ ?_; (focus (simp [go_sem,w1']; done)); (repeat (refine aA q11x2 hX mixed rfl ?_; (simp [go_sem,w1']; try (refine ⟨by kernel_rfl,?_⟩)))))))
 refine bU 1 ?_
 (repeat (refine aA q11x2 hX mixed rfl ?_; (simp [go_sem,hu,w1']; try (refine ⟨by kernel_rfl,?_⟩)))); (repeat (first | (refine aI ?_ ?_; (focus (simp [go_sem,hu,w1']; done)); (repeat (refine aA q11x2 hX mixed rfl ?_; (simp [go_sem,hu,w1']; try (refine ⟨by kernel_rfl,?_⟩))))) | (refine aG ?_ ?_; (focus (simp [go_sem,hu,w1']; done)); (repeat (refine aA q11x2 hX mixed rfl ?_; (simp [go_sem,hu,w1']; try (refine ⟨by kernel_rfl,?_⟩)))))))
 first | refine aX (fun hg => zH) ?_ | refine aW (fun hg => zH) ?_
 try (simp [go_sem]; try (refine ⟨by kernel_rfl,?_⟩))
 (repeat (refine aA q11x2 hX mixed rfl ?_; (simp [go_sem,hu,w1']; try (refine ⟨by kernel_rfl,?_⟩)))); (repeat (first | (refine aI ?_ ?_; (focus (simp [go_sem,hu,w1']; done)); (repeat (refine aA q11x2 hX mixed rfl ?_; (simp [go_sem,hu,w1']; try (refine ⟨by kernel_rfl,?_⟩))))) | (refine aG ?_ ?_; (focus (simp [go_sem,hu,w1']; done)); (repeat (refine aA q11x2 hX mixed rfl ?_; (simp [go_sem,hu,w1']; try (refine ⟨by kernel_rfl,?_⟩)))))))
 refine ⟨by unfold maxLen; omega,?_⟩
 (repeat (refine aA q11x2 hX mixed rfl ?_; (simp [go_sem,w1']; try (refine ⟨by kernel_rfl,?_⟩)))); (repeat (first | (refine aI ?_ ?_; (focus (simp [go_sem,w1']; done)); (repeat (refine aA q11x2 hX mixed rfl ?_; (simp [go_sem,w1']; try (refine ⟨by kernel_rfl,?_⟩))))) | (refine aG ?_ ?_; (focus (simp [go_sem,w1']; done)); (repeat (refine aA q11x2 hX mixed rfl ?_; (simp [go_sem,w1']; try (refine ⟨by kernel_rfl,?_⟩)))))))
set_option maxHeartbeats 4000000 in
theorem lS : Means true Tryz.prog 84 [il [1],.sl [voE]] (.tup [ii 1,ii 0]) :=by
 have w2 : IntKind.i64.wrap 0 = 0 :=by decide
 have m0 : max (0 : Int) 0 = 0 :=by decide
 have q1 : Int.tdiv 1 2 = 0 :=by decide
 refine aH true 61 [.tmp 4,.tmp 5] Tryz.func84 rfl rfl rfl (by simp) (by decide) rfl fun X hX => ?_
 (repeat (refine aA q11x1 hX mixed rfl ?_; (simp [go_sem]; try (refine ⟨by kernel_rfl,?_⟩))))
 first | refine aP (qZ) ?_ | refine aQ (qZ) ?_
 try (simp [go_sem]; try (refine ⟨by kernel_rfl,?_⟩))
 (repeat (refine aA q11x1 hX mixed rfl ?_; (simp [go_sem]; try (refine ⟨by kernel_rfl,?_⟩)))); (repeat (first | (refine aI ?_ ?_; (focus (simp [go_sem]; done)); (repeat (refine aA q11x1 hX mixed rfl ?_; (simp [go_sem]; try (refine ⟨by kernel_rfl,?_⟩))))) | (refine aG ?_ ?_; (focus (simp [go_sem]; done)); (repeat (refine aA q11x1 hX mixed rfl ?_; (simp [go_sem]; try (refine ⟨by kernel_rfl,?_⟩)))))))
 refine bU 1 ?_
 (repeat (refine aA q11x1 hX mixed rfl ?_; (simp [go_sem,w1',m0]; try (refine ⟨by kernel_rfl,?_⟩)))); (repeat (first | (refine aI ?_ ?_; (focus (simp [go_sem,w1',m0]; done)); (repeat (refine aA q11x1 hX mixed rfl ?_; (simp [go_sem,w1',m0]; try (refine ⟨by kernel_rfl,?_⟩))))) | (refine aG ?_ ?_; (focus (simp [go_sem,w1',m0]; done)); (repeat (refine aA q11x1 hX mixed rfl ?_; (simp [go_sem,w1',m0]; try (refine ⟨by kernel_rfl,?_⟩)))))))
 first | refine aP (nO) ?_ | refine aQ (nO) ?_
 try (simp [go_sem]; try (refine ⟨by kernel_rfl,?_⟩))
 (repeat (refine aA q11x1 hX mixed rfl ?_; (simp [go_sem]; try (refine ⟨by kernel_rfl,?_⟩)))); (repeat (first | (refine aI ?_ ?_; (focus (simp [go_sem]; done)); (repeat (refine aA q11x1 hX mixed rfl ?_; (simp [go_sem]; try (refine ⟨by kernel_rfl,?_⟩))))) | (refine aG ?_ ?_; (focus (simp [go_sem]; done)); (repeat (refine aA q11x1 hX mixed rfl ?_; (simp [go_sem]; try (refine ⟨by kernel_rfl,?_⟩)))))))
 refine bU 1 ?_
 (repeat (refine aA q11x1 hX mixed rfl ?_; (simp [go_sem,w1',w2,q1]; try (refine ⟨by kernel_rfl,?_⟩)))); (repeat (first | (refine aI ?_ ?_; (focus (simp [go_sem,w1',w2,q1]; done)); (repeat (refine aA q11x1 hX mixed rfl ?_; (simp [go_sem,w1',w2,q1]; try (refine ⟨by kernel_rfl,?_⟩))))) | (refine aG ?_ ?_; (focus (simp [go_sem,w1',w2,q1]; done)); (repeat (refine aA q11x1 hX mixed rfl ?_; (simp [go_sem,w1',w2,q1]; try (refine ⟨by kernel_rfl,?_⟩)))))))
abbrev clV (pr st gr fr : Int) : AV :=.agg [ii 5,ii 0,ii 2,ii 9,ii 0,ii 0,ii pr,il [1],il [],ii st,ii gr,ii fr]
theorem wE (pr st gr fr : Int) : Means true Tryz.prog 41 [clV pr st gr fr,.sl [voE]] (ii 1) :=by
 refine aH true 25 [.tmp 4] Tryz.func41 rfl rfl rfl (by simp) (by decide) rfl fun X hX => ?_
 (repeat (refine aA q11x8 hX mixed rfl ?_; (simp [go_sem]; try (refine ⟨by kernel_rfl,?_⟩)))); (repeat (first | (refine aI ?_ ?_; (focus (simp [go_sem]; done)); (repeat (refine aA q11x8 hX mixed rfl ?_; (simp [go_sem]; try (refine ⟨by kernel_rfl,?_⟩))))) | (refine aG ?_ ?_; (focus (simp [go_sem]; done)); (repeat (refine aA q11x8 hX mixed rfl ?_; (simp [go_sem]; try (refine ⟨by kernel_rfl,?_⟩)))))))
 first | refine aP (lS) ?_ | refine aQ (lS) ?_
 try (simp [go_sem]; try (refine ⟨by kernel_rfl,?_⟩))
 (repeat (refine aA q11x8 hX mixed rfl ?_; (simp [go_sem]; try (refine ⟨by kernel_rfl,?_⟩)))); (repeat (first | (refine aI ?_ ?_; (focus (simp [go_sem]; done)); (repeat (refine aA q11x8 hX mixed rfl ?_; (simp [go_sem]; try (refine ⟨by kernel_rfl,?_⟩))))) | (refine aG ?_ ?_; (focus (simp [go_sem]; done)); (repeat (refine aA q11x8 hX mixed rfl ?_; (simp [go_sem]; try (refine ⟨by kernel_rfl,?_⟩)))))))
theorem r6 (pr st gr fr : Int) : Means false Tryz.prog 39 [clV pr st gr fr] (clV pr st gr fr) :=by
 have c1 :=kH [1] (by simp)
 have c2 :=kH [] (by simp)
 refine aH false 12 [.cell 2 49] Tryz.func39 rfl rfl rfl (by simp) (by decide) rfl fun X hX => ?_
 (repeat (refine aA [0,1,2] hX mixed rfl ?_; (simp [go_sem]; try (refine ⟨by kernel_rfl,?_⟩))))
 first | refine aP (c1) ?_ | refine aQ (c1) ?_
 try (simp [go_sem]; try (refine ⟨by kernel_rfl,?_⟩))
 first | refine aP (c2) ?_ | refine aQ (c2) ?_
 try (simp [go_sem]; try (refine ⟨by kernel_rfl,?_⟩))
 (repeat (refine aA [0,1,2] hX mixed rfl ?_; (simp [go_sem]; try (refine ⟨by kernel_rfl,?_⟩))))
theorem BK : Means false Tryz.prog 18 [clV 0 0 0 0] (.tup [clV 1 0 0 0,ii 0]) :=by
 have c1 :=r6 0 0 0 0
 refine aH false 21 [.cell 2 49,.tmp 3] Tryz.func18 rfl rfl rfl (by simp) (by decide) rfl fun X hX => ?_
 (repeat (refine aA [0,1,2,3,6,11] hX mixed rfl ?_; (simp [go_sem]; try (refine ⟨by kernel_rfl,?_⟩))))
 first | refine aP (c1) ?_ | refine aQ (c1) ?_
 try (simp [go_sem]; try (refine ⟨by kernel_rfl,?_⟩))
 (repeat (refine aA [0,1,2,3,6,11] hX mixed rfl ?_; (simp [go_sem,w1']; try (refine ⟨by kernel_rfl,?_⟩)))); (repeat (first | (refine aI ?_ ?_; (focus (simp [go_sem,w1']; done)); (repeat (refine aA [0,1,2,3,6,11] hX mixed rfl ?_; (simp [go_sem,w1']; try (refine ⟨by kernel_rfl,?_⟩))))) | (refine aG ?_ ?_; (focus (simp [go_sem,w1']; done)); (repeat (refine aA [0,1,2,3,6,11] hX mixed rfl ?_; (simp [go_sem,w1']; try (refine ⟨by kernel_rfl,?_⟩)))))))
theorem D5 (n : Int) (h : 0 ≤ n ∧ n ≤ 1048576) : Means true Tryz.prog 40 [ii n] (bb true) :=by
 refine aH true 9 [.tmp 2] Tryz.func40 rfl rfl rfl (by simp) (by decide) rfl fun X hX => ?_
 (repeat (refine aA [0,2] hX mixed rfl ?_; (simp [go_sem,h.1,h.2]; try (refine ⟨by kernel_rfl,?_⟩)))); (repeat (first | (refine aI ?_ ?_; (focus (simp [go_sem,h.1,h.2]; done)); (repeat (refine aA [0,2] hX mixed rfl ?_; (simp [go_sem,h.1,h.2]; try (refine ⟨by kernel_rfl,?_⟩))))) | (refine aG ?_ ?_; (focus (simp [go_sem,h.1,h.2]; done)); (repeat (refine aA [0,2] hX mixed rfl ?_; (simp [go_sem,h.1,h.2]; try (refine ⟨by kernel_rfl,?_⟩)))))))
set_option maxHeartbeats 4000000 in
theorem D6 (b : Bl) (h : OkB b) (hw : b.wait = 0) : Means false Tryz.prog 19 [clV 1 0 0 0,bl b,ii 4,.sl [voE],ii 0] (clV 1 2 4 1) :=by
 have c1 :=r6 1 0 0 0
 have c2 :=fY b h
 have c3 :=D5 0 (by decide)
 have c4 :=wE 1 0 0 0
 have hp :=h.period
 refine aH false 88 [.cell 10 49] Tryz.func19 rfl rfl rfl (by simp) (by decide) rfl fun X hX => ?_
 (repeat (refine aA q11x4 hX mixed rfl ?_; (simp [go_sem]; try (refine ⟨by kernel_rfl,?_⟩))))
 first | refine aP (c1) ?_ | refine aQ (c1) ?_
 try (simp [go_sem]; try (refine ⟨by kernel_rfl,?_⟩))
 (repeat (refine aA q11x4 hX mixed rfl ?_; (simp [go_sem]; try (refine ⟨by kernel_rfl,?_⟩))))
 first | refine aP (c2) ?_ | refine aQ (c2) ?_
 try (simp [go_sem]; try (refine ⟨by kernel_rfl,?_⟩))
 first | refine aX (fun hg => c3) ?_ | refine aW (fun hg => c3) ?_
 try (simp [go_sem]; try (refine ⟨by kernel_rfl,?_⟩))
 (repeat (refine aA q11x4 hX mixed rfl ?_; (simp [go_sem]; try (refine ⟨by kernel_rfl,?_⟩)))); (repeat (first | (refine aI ?_ ?_; (focus (simp [go_sem]; done)); (repeat (refine aA q11x4 hX mixed rfl ?_; (simp [go_sem]; try (refine ⟨by kernel_rfl,?_⟩))))) | (refine aG ?_ ?_; (focus (simp [go_sem]; done)); (repeat (refine aA q11x4 hX mixed rfl ?_; (simp [go_sem]; try (refine ⟨by kernel_rfl,?_⟩)))))))
 first | refine aP (c4) ?_ | refine aQ (c4) ?_
 try (simp [go_sem]; try (refine ⟨by kernel_rfl,?_⟩))
 have m4 : max (min (9 : Int) 4) 0 = 4 :=by decide
 (repeat (refine aA q11x4 hX mixed rfl ?_; (simp [go_sem,hw,w1',m4]; try (refine ⟨by kernel_rfl,?_⟩)))); (repeat (first | (refine aI ?_ ?_; (focus (simp [go_sem,hw,w1',m4]; done)); (repeat (refine aA q11x4 hX mixed rfl ?_; (simp [go_sem,hw,w1',m4]; try (refine ⟨by kernel_rfl,?_⟩))))) | (refine aG ?_ ?_; (focus (simp [go_sem,hw,w1',m4]; done)); (repeat (refine aA q11x4 hX mixed rfl ?_; (simp [go_sem,hw,w1',m4]; try (refine ⟨by kernel_rfl,?_⟩)))))))
set_option maxHeartbeats 4000000 in
theorem D7 : Means false Tryz.prog 17 [eA,ii 5,il [1]] (.tup [clV 0 0 0 0,ii 0]) :=by
 have c1 :=zI
 have c2 :=kH [1] (by simp)
 refine aH false 49 [.cell 6 49,.tmp 7] Tryz.func17 rfl rfl rfl (by simp) (by decide) rfl fun X hX => ?_
 (repeat (refine aA q11x7 hX mixed rfl ?_; (simp [go_sem]; try (refine ⟨by kernel_rfl,?_⟩))))
 first | refine aP (c1) ?_ | refine aQ (c1) ?_
 try (simp [go_sem]; try (refine ⟨by kernel_rfl,?_⟩))
 (repeat (refine aA q11x7 hX mixed rfl ?_; (simp [go_sem]; try (refine ⟨by kernel_rfl,?_⟩)))); (repeat (first | (refine aI ?_ ?_; (focus (simp [go_sem]; done)); (repeat (refine aA q11x7 hX mixed rfl ?_; (simp [go_sem]; try (refine ⟨by kernel_rfl,?_⟩))))) | (refine aG ?_ ?_; (focus (simp [go_sem]; done)); (repeat (refine aA q11x7 hX mixed rfl ?_; (simp [go_sem]; try (refine ⟨by kernel_rfl,?_⟩)))))))
 first | refine aP (c2) ?_ | refine aQ (c2) ?_
 try (simp [go_sem]; try (refine ⟨by kernel_rfl,?_⟩))
 (repeat (refine aA q11x7 hX mixed rfl ?_; (simp [go_sem]; try (refine ⟨by kernel_rfl,?_⟩)))); (repeat (first | (refine aI ?_ ?_; (focus (simp [go_sem]; done)); (repeat (refine aA q11x7 hX mixed rfl ?_; (simp [go_sem]; try (refine ⟨by kernel_rfl,?_⟩))))) | (refine aG ?_ ?_; (focus (simp [go_sem]; done)); (repeat (refine aA q11x7 hX mixed rfl ?_; (simp [go_sem]; try (refine ⟨by kernel_rfl,?_⟩)))))))
end Go.Proofs.YtaolljbpencjnaaGreatDoor

namespace Go.Proofs.YtaolljbpencjnaaGreatDoor
open Go.RowKit Go.Ab
attribute [local irreducible] AWP Go.Ab.Sub Means MeansH CallK CallG CallT CallGT PanicH DefH CallU MeansS
def txt : By :=[99,105,114,99,108,101,32,114,111,116,97,116,105,110,103,32,59,32,112,101,114,105,111,100,32,55,32,100,97,121,115,32,59,32,108,97,115,116,32,51,32,59,32,103,114,97,99,101,32,50,32,100,97,121,115,32,59,32,106,117,114,121,32,49,32,59,32,102,117,110,100,32,49,48,48,32,112,101,114,32,109,105,108,108,101,32,59,32,100,117,101,32,49,48,32,99,111,105,110,115,32,42,32,109,101,109,98,101,114,115,32,59,32,102,105,110,101,32,49,32,99,111,105,110,115,32,42,32,40,32,108,97,116,101,32,47,32,49,32,100,97,121,115,32,41,32,59,32,99,111,118,101,114,32,112,97,105,100,32,59]
theorem BL : Means true Tryz.prog 15 [] (ss txt) :=by
 refine aH true 1 [.tmp 0] Tryz.func15 rfl rfl rfl (by simp) (by decide) rfl fun X hX => ?_
 (repeat (refine aA [0] hX mixed rfl ?_; (simp [go_sem]; try (refine ⟨by kernel_rfl,?_⟩))))
 rfl
structure IsEx (b : Bl) : Prop where
 ok : OkB b
 lets : b.lets = []
 period : b.period = 7
 grace : b.grace = 2
 last : b.last = 3
 wait : b.wait = 0
 due : b.due = .bin 4 (.num 10 3) (.nam [109,101,109,98,101,114,115])
 fine : b.fine = .bin 4 (.num 1 3) (.bin 5 (.nam [108,97,116,101]) (.num 1 2))
def bEx : Bl :=⟨0,7,2,0,3,0,false,0,0,1,100,[],.bin 4 (.num 10 3) (.nam [109,101,109,98,101,114,115]),.bin 4 (.num 1 3) (.bin 5 (.nam [108,97,116,101]) (.num 1 2)),.num 0 3,.nam [112,97,105,100],.num 0 3⟩
theorem gP : parseT txt = (bEx,0,0) :=by decide +kernel
theorem wF : rulesV txt 2 = 0 :=by
 unfold rulesV
 rw [gP]
 have e1 : (unitsU bEx).2 = 0 :=by decide +kernel
 have e2 : solvE (calL bEx.period bEx.wait bEx.grace) FF = 0 :=by decide +kernel
 simp only [e1,e2,if_true]
 rfl
theorem ED : IsEx bEx :=⟨by have :=gI (s :=txt) (by rw [gP]); rw [gP] at this; exact this,rfl,rfl,rfl,rfl,rfl,rfl,rfl⟩
set_option maxHeartbeats 8000000 in
set_option maxRecDepth 20000 in
theorem BM : Means true Tryz.prog 4 [] (bb true) :=by
 have c0 :=BL
 have c1 :=kI txt
 rw [gP] at c1
 have c6 :=qI txt 2
 rw [wF] at c6
 have hx :=ED
 simp only at c1
 generalize bEx = b at c1 hx
 generalize txt = T at *
 have c2 :=D8 b hx.ok hx.lets hx.period hx.grace hx.last hx.due hx.fine
 have c3 :=D7
 have c4 :=BK
 have c5 :=D6 b hx.ok hx.wait
 refine aH true 104 [.tmp 0] Tryz.func4 rfl rfl rfl (by simp) (by decide) rfl fun X hX => ?_
 (repeat (refine aA q11x5 hX mixed rfl ?_; (simp [go_sem]; try (refine ⟨by kernel_rfl,?_⟩))))
 first | refine aP (c0) ?_ | refine aQ (c0) ?_
 try (simp [go_sem]; try (refine ⟨by kernel_rfl,?_⟩))
 first | refine aP (c1) ?_ | refine aQ (c1) ?_
 try (simp [go_sem]; try (refine ⟨by kernel_rfl,?_⟩))
 (repeat (refine aA q11x5 hX mixed rfl ?_; (simp [go_sem]; try (refine ⟨by kernel_rfl,?_⟩))))
 first | refine aP (c2) ?_ | refine aQ (c2) ?_
 try (simp [go_sem]; try (refine ⟨by kernel_rfl,?_⟩))
 (repeat (refine aA q11x5 hX mixed rfl ?_; (simp [go_sem]; try (refine ⟨by kernel_rfl,?_⟩))))
 refine iF (c3) rfl rfl ?_
 try (simp [go_sem]; try (refine ⟨by kernel_rfl,?_⟩))
 (repeat (refine aA q11x5 hX mixed rfl ?_; (simp [go_sem]; try (refine ⟨by kernel_rfl,?_⟩))))
 first | refine aP (c4) ?_ | refine aQ (c4) ?_
 try (simp [go_sem]; try (refine ⟨by kernel_rfl,?_⟩))
 (repeat (refine aA q11x5 hX mixed rfl ?_; (simp [go_sem]; try (refine ⟨by kernel_rfl,?_⟩))))
 refine iF (c5) rfl rfl ?_
 try (simp [go_sem]; try (refine ⟨by kernel_rfl,?_⟩))
 (repeat (refine aA q11x5 hX mixed rfl ?_; (simp [go_sem]; try (refine ⟨by kernel_rfl,?_⟩)))); (repeat (first | (refine aI ?_ ?_; (focus (simp [go_sem]; done)); (repeat (refine aA q11x5 hX mixed rfl ?_; (simp [go_sem]; try (refine ⟨by kernel_rfl,?_⟩))))) | (refine aG ?_ ?_; (focus (simp [go_sem]; done)); (repeat (refine aA q11x5 hX mixed rfl ?_; (simp [go_sem]; try (refine ⟨by kernel_rfl,?_⟩)))))))
 first | refine aP (c0) ?_ | refine aQ (c0) ?_
 try (simp [go_sem]; try (refine ⟨by kernel_rfl,?_⟩))
 first | refine aP (c6) ?_ | refine aQ (c6) ?_
 try (simp [go_sem]; try (refine ⟨by kernel_rfl,?_⟩))
 (repeat (refine aA q11x5 hX mixed rfl ?_; (simp [go_sem]; try (refine ⟨by kernel_rfl,?_⟩)))); (repeat (first | (refine aI ?_ ?_; (focus (simp [go_sem]; done)); (repeat (refine aA q11x5 hX mixed rfl ?_; (simp [go_sem]; try (refine ⟨by kernel_rfl,?_⟩))))) | (refine aG ?_ ?_; (focus (simp [go_sem]; done)); (repeat (refine aA q11x5 hX mixed rfl ?_; (simp [go_sem]; try (refine ⟨by kernel_rfl,?_⟩)))))))
end Go.Proofs.YtaolljbpencjnaaGreatDoor

namespace Go.Proofs.YtaolljbpencjnaaGreatDoor
open Go.RowKit Go.Ab
attribute [local irreducible] AWP Go.Ab.Sub Means MeansH CallK CallG CallT CallGT PanicH DefH CallU MeansS
theorem wG {s : By} {n : Int} (h : rulesV s n = 0) : (1 ≤ n ∧ n ≤ 60) ∧ (parseT s).2.2 = 0 ∧ solvE (calL (parseT s).1.period (parseT s).1.wait (parseT s).1.grace) FF = 0 :=by
 unfold rulesV at h
 split at h
 · cases h
 · rename_i hn
   split at h
   · rename_i he
     split at h
     · split at h
       · rename_i hs
         exact ⟨by omega,he,hs⟩
       · cases h
     · rename_i hu; exact absurd h hu
   · rename_i he; exact absurd h he
theorem lT {p f l d : Int} (h : (shV p f l d).2 = 0) : 0 ≤ f ∧ f ≤ 1048576 ∧ f + p * l + d ≤ 1048576 ∧ (shV p f l d).1 = f + p * l + d :=by
 unfold shV at h ⊢
 by_cases hf : dayB f = true
 · have hf' :=dX.1 hf
   rw [if_pos hf] at h ⊢
   by_cases hc : 1048576 < f + p * l + d
   · rw [if_pos hc] at h; cases h
   · rw [if_neg hc]
     exact ⟨hf'.1,hf'.2,by omega,rfl⟩
 · rw [if_neg hf] at h; cases h
theorem kK {p f l d : Int} (h : ¬ (shV p f l d).2 = 0) : (f < 0 ∨ 1048576 < f) ∨ (shV p f l d).2 = 3 ∧ 1048576 < f + p * l + d :=by
 unfold shV at h ⊢
 by_cases hf : dayB f = true
 · rw [if_pos hf] at h ⊢
   by_cases hc : 1048576 < f + p * l + d
   · rw [if_pos hc]; exact .inr ⟨rfl,hc⟩
   · rw [if_neg hc] at h; exact absurd rfl h
 · refine .inl ?_
   have : ¬ (0 ≤ f ∧ f ≤ 1048576) :=fun h => hf (dX.2 h)
   omega
theorem wH {q f l w g : Int} (hl : 1 ≤ l) (hw : w ≤ l) (h : ¬ ((beginsV q f l).2 = 0 ∧ (opensV q f l w).2 = 0 ∧ (endsV q f l).2 = 0 ∧ (dueV q f l g).2 = 0 ∧ (endsV (q + 1) f l).2 = 0)) :
  (f < 0 ∨ 1048576 < f) ∨ (endsV (q + 1) f l).2 = 3 ∨ (dueV q f l g).2 = 3 :=by
 have hs : (q + 1) * l = q * l + l :=by rw [Int.add_mul,Int.one_mul]
 by_cases hn : (endsV (q + 1) f l).2 = 0
 · obtain ⟨n1,n2,n3,n4⟩ :=lT hn
   rw [hs] at n3
   have hb : (beginsV q f l).2 = 0 :=by
    by_cases hb : (beginsV q f l).2 = 0
    · exact hb
    · rcases kK hb with h | h
      · omega
      · omega
   have he : (endsV q f l).2 = 0 :=by
    by_cases hb : (endsV q f l).2 = 0
    · exact hb
    · rcases kK hb with h | h
      · omega
      · omega
   have ho : (opensV q f l w).2 = 0 :=by
    unfold opensV
    rw [if_neg (by rw [he]; omega),if_pos he]
   have hd : ¬ (dueV q f l g).2 = 0 :=fun hd => h ⟨hb,ho,he,hd,hn⟩
   rcases kK hd with h | h
   · exact .inl h
   · exact .inr (.inr h.1)
 · rcases kK hn with h | h
   · exact .inl h
   · exact .inr (.inl h.1)
theorem lU {o f l q : Int} (hl : 1 ≤ l) (hf : 0 ≤ f ∧ f ≤ 1048576) (ho : o ≤ 1048576) (h1 : f + q * l ≤ o) (h2 : o < f + q * l + l) (hq : 0 ≤ q * l) : periodV o f l = (q,0) :=by
 have d1 : dayB o = true :=dX.2 (by omega)
 have d2 : dayB f = true :=dX.2 hf
 have hd : (o - f) / l = q :=by
  have e : o - f = (o - f - q * l) + q * l :=by omega
  rw [e,Int.add_mul_ediv_right _ _ (by omega),Int.ediv_eq_zero_of_lt (by omega) (by omega)]
  omega
 unfold periodV
 rw [d1,d2,hd]
 simp only [Bool.and_self,if_true]
 rw [if_neg (by omega)]
set_option maxHeartbeats 16000000 in
set_option maxRecDepth 20000 in
theorem AE (s : By) (n f q : Int) : Means true Tryz.prog 3 [ss s,ii n,ii f,ii q] (bb true) :=by
 have c1 :=BM
 have c2 :=AW s
 have c3 :=qI s n
 have c4 :=kI s
 have hri :=wG (s :=s) (n :=n)
 have hok : (parseT s).2.2 = 0 → OkB (parseT s).1 :=gI
 generalize lightV s = L at *
 generalize rulesV s n = V at *
 generalize parseT s = R at *
 obtain ⟨b,pp,e⟩ :=R
 simp only at c4 hri hok
 refine aH true 179 [.tmp 8] Tryz.func3 rfl rfl rfl (by simp) (by decide) rfl fun X hX => ?_
 (repeat (refine aA q11x0 hX mixed rfl ?_; (simp [go_sem]; try (refine ⟨by kernel_rfl,?_⟩))))
 first | refine aP (c1) ?_ | refine aQ (c1) ?_
 try (simp [go_sem]; try (refine ⟨by kernel_rfl,?_⟩))
 (repeat (refine aA q11x0 hX mixed rfl ?_; (simp [go_sem]; try (refine ⟨by kernel_rfl,?_⟩))))
 first | refine aP (c2) ?_ | refine aQ (c2) ?_
 try (simp [go_sem]; try (refine ⟨by kernel_rfl,?_⟩))
 first | refine aX (fun hg => c3) ?_ | refine aW (fun hg => c3) ?_
 try (simp [go_sem]; try (refine ⟨by kernel_rfl,?_⟩))
 refine aC (b :=!L || !decide (V = 0)) (by simp [go_sem]) (fun hd => ?_) (fun hd => ?_)
 · (repeat (refine aA q11x0 hX mixed rfl ?_; (simp [go_sem]; try (refine ⟨by kernel_rfl,?_⟩))))
 have hV : V = 0 :=by
  simp only [Bool.or_eq_false_iff,Bool.not_eq_false',decide_eq_true_eq] at hd
  exact hd.2
 obtain ⟨hn,he,hsv⟩ :=hri hV
 have hb :=hok he
 have hwg :=AR hb.period hb.wait hb.grace hsv
 have hper :=hb.period
 have hwt :=hb.wait
 have hgr :=hb.grace
 have hla :=hb.last
 have c10 :=lF b hb
 clear hok hri hsv
 (repeat (refine aA q11x0 hX mixed rfl ?_; (simp [go_sem]; try (refine ⟨by kernel_rfl,?_⟩))))
 first | refine aP (c4) ?_ | refine aQ (c4) ?_
 try (simp [go_sem]; try (refine ⟨by kernel_rfl,?_⟩))
 (repeat (refine aA q11x0 hX mixed rfl ?_; (simp [go_sem]; try (refine ⟨by kernel_rfl,?_⟩))))
 refine aC (b :=decide (q < 0) || decide (b.last ≤ q)) (by simp [go_sem]) (fun hd => ?_) (fun hd => ?_)
 · (repeat (refine aA q11x0 hX mixed rfl ?_; (simp [go_sem]; try (refine ⟨by kernel_rfl,?_⟩))))
 have hq : 0 ≤ q ∧ q < b.last :=by
  simp only [Bool.or_eq_false_iff,decide_eq_false_iff_not] at hd
  omega
 have c5 :=r7 q f b.period (by omega) (by omega)
 have c6 :=BN q f b.period b.wait (by omega) (by omega) (by omega)
 have c7 :=sY q f b.period (by omega) (by omega)
 have c8 :=zJ q f b.period b.grace (by omega) (by omega) (by omega)
 have c9 :=sY (q + 1) f b.period (by omega) (by omega)
 have w1 :=w64 (x :=q + 1) (by omega) (by omega)
 have herr :=wH (q :=q) (f :=f) (g :=b.grace) hper.1 hwg.1
 (repeat (refine aA q11x0 hX mixed rfl ?_; (simp [go_sem]; try (refine ⟨by kernel_rfl,?_⟩))))
 first | refine aP (c5) ?_ | refine aQ (c5) ?_
 try (simp [go_sem]; try (refine ⟨by kernel_rfl,?_⟩))
 (repeat (refine aA q11x0 hX mixed rfl ?_; (simp [go_sem]; try (refine ⟨by kernel_rfl,?_⟩))))
 first | refine aP (c6) ?_ | refine aQ (c6) ?_
 try (simp [go_sem]; try (refine ⟨by kernel_rfl,?_⟩))
 (repeat (refine aA q11x0 hX mixed rfl ?_; (simp [go_sem]; try (refine ⟨by kernel_rfl,?_⟩))))
 first | refine aP (c7) ?_ | refine aQ (c7) ?_
 try (simp [go_sem]; try (refine ⟨by kernel_rfl,?_⟩))
 (repeat (refine aA q11x0 hX mixed rfl ?_; (simp [go_sem]; try (refine ⟨by kernel_rfl,?_⟩))))
 first | refine aP (c8) ?_ | refine aQ (c8) ?_
 try (simp [go_sem]; try (refine ⟨by kernel_rfl,?_⟩))
 (repeat (refine aA q11x0 hX mixed rfl ?_; (simp [go_sem,w1]; try (refine ⟨by kernel_rfl,?_⟩))))
 first | refine aP (c9) ?_ | refine aQ (c9) ?_
 try (simp [go_sem]; try (refine ⟨by kernel_rfl,?_⟩))
 (repeat (refine aA q11x0 hX mixed rfl ?_; (simp [go_sem]; try (refine ⟨by kernel_rfl,?_⟩))))
 refine aC (b :=!decide ((beginsV q f b.period).2 = 0) || !decide ((opensV q f b.period b.wait).2 = 0) || !decide ((endsV q f b.period).2 = 0) || !decide ((dueV q f b.period b.grace).2 = 0) || !decide ((endsV (q + 1) f b.period).2 = 0)) (by simp [go_sem]) (fun hd => ?_) (fun hd => ?_)
 · have herr :=herr (fun ⟨z1,z2,z3,z4,z5⟩ => by simp [z1,z2,z3,z4,z5] at hd)
   (repeat (refine aA q11x0 hX mixed rfl ?_; (simp [go_sem]; try (refine ⟨by kernel_rfl,?_⟩))))
   omega
 simp only [Bool.or_eq_false_iff,Bool.not_eq_false',decide_eq_true_eq] at hd
 obtain ⟨⟨⟨⟨z1,z2⟩,z3⟩,z4⟩,z5⟩ :=hd
 obtain ⟨f0,f1,y1,v1⟩ :=lT z1
 obtain ⟨_,_,y3,v3⟩ :=lT z3
 obtain ⟨_,_,y4,v4⟩ :=lT z4
 obtain ⟨_,_,y5,v5⟩ :=lT z5
 have v2 : (opensV q f b.period b.wait).1 = (endsV q f b.period).1 - b.wait + 1 :=by
  unfold opensV
  rw [if_neg (by rw [z3]; omega),if_pos z3]
 have hs : (q + 1) * b.period = q * b.period + b.period :=by rw [Int.add_mul,Int.one_mul]
 have hk :=sZ hq.1 (by omega : q ≤ 5000) (by omega : 0 ≤ b.period) (by omega : b.period ≤ 5000)
 rw [hs] at y5 v5
 have v1 : (beginsV q f b.period).1 = f + q * b.period + 0 :=v1
 have v3 : (endsV q f b.period).1 = f + q * b.period + (b.period - 1) :=v3
 have v4 : (dueV q f b.period b.grace).1 = f + q * b.period + (b.period - 1 + b.grace) :=v4
 have v5 : (endsV (q + 1) f b.period).1 = f + (q * b.period + b.period) + (b.period - 1) :=v5
 have c11 :=jA (endsV q f b.period).1 f b.period (by omega)
 have c12 :=jA ((endsV q f b.period).1 + 1) f b.period (by omega)
 rw [lU (q :=q) hper.1 ⟨f0,f1⟩ (by omega) (by omega) (by omega) hk.1] at c11
 rw [lU (q :=q + 1) hper.1 ⟨f0,f1⟩ (by omega) (by rw [hs]; omega) (by rw [hs]; omega) (by rw [hs]; omega)] at c12
 simp only [t2] at c11 c12
 have hlen : ([(beginsV q f b.period).1,(opensV q f b.period b.wait).1,(endsV q f b.period).1,(dueV q f b.period b.grace).1,(endsV (q + 1) f b.period).1] : List Int).length = 5 :=rfl
 have c13 :=zK (calL b.period b.wait b.grace) [(beginsV q f b.period).1,(opensV q f b.period b.wait).1,(endsV q f b.period).1,(dueV q f b.period b.grace).1,(endsV (q + 1) f b.period).1] (by simp) (by simp [calL]) (fun c hc => by
   simp [calL] at hc
   rcases hc with rfl | rfl | rfl | rfl | rfl | rfl | rfl | rfl | rfl | rfl <;> simp [okC] <;> omega) (fun v hv => by
   simp only [List.mem_cons,List.not_mem_nil,or_false] at hv
   rcases hv with rfl | rfl | rfl | rfl | rfl <;> omega) (fun c hc => by
   simp [calL] at hc
   rcases hc with rfl | rfl | rfl | rfl | rfl | rfl | rfl | rfl | rfl | rfl <;> simp <;> omega)
 rw [hlen] at c13
 have w2 :=w64 (x :=(endsV q f b.period).1 + 1) (by omega) (by omega)
 generalize calL b.period b.wait b.grace = C at *
 clear v1 v2 v3 v4 v5 y1 y3 y4 y5 herr hk
 generalize (beginsV q f b.period).1 = a1 at *
 generalize (opensV q f b.period b.wait).1 = a2 at *
 generalize (endsV q f b.period).1 = a3 at *
 generalize (dueV q f b.period b.grace).1 = a4 at *
 generalize (endsV (q + 1) f b.period).1 = a5 at *
 (repeat (refine aA q11x0 hX mixed rfl ?_; (simp [go_sem]; try (refine ⟨by kernel_rfl,?_⟩))))
 first | refine aP (c11) ?_ | refine aQ (c11) ?_
 try (simp [go_sem]; try (refine ⟨by kernel_rfl,?_⟩))
 (repeat (refine aA q11x0 hX mixed rfl ?_; (simp [go_sem,w2]; try (refine ⟨by kernel_rfl,?_⟩))))
 first | refine aP (c12) ?_ | refine aQ (c12) ?_
 try (simp [go_sem]; try (refine ⟨by kernel_rfl,?_⟩))
 (repeat (refine aA q11x0 hX mixed rfl ?_; (simp [go_sem,w1]; try (refine ⟨by kernel_rfl,?_⟩))))
 refine aG (by simp [go_sem,w1]) ?_
 (repeat (refine aA q11x0 hX mixed rfl ?_; (simp [go_sem]; try (refine ⟨by kernel_rfl,?_⟩))))
 first | refine aX (fun hg => c10) ?_ | refine aW (fun hg => c10) ?_
 try (simp [go_sem]; try (refine ⟨by kernel_rfl,?_⟩))
 first | refine aX (fun hg => c13) ?_ | refine aW (fun hg => c13) ?_
 try (simp [go_sem]; try (refine ⟨by kernel_rfl,?_⟩))
 (repeat (refine aA q11x0 hX mixed rfl ?_; (simp [go_sem]; try (refine ⟨by kernel_rfl,?_⟩))))
end Go.Proofs.YtaolljbpencjnaaGreatDoor

namespace Go.Proofs.YtaolljbpencjnaaGreatDoor
open Go.ChangeShapes Go.WideShapes Go.ChangeAt Go.RowKit Go.Ab
theorem Tryz.own : ownKnob Tryz.prog.godebug = none :=by kernel_rfl
theorem Tryz.laidOut : laidOutB Tryz.prog = true :=by kernel_rfl
set_option maxRecDepth 100000 in
theorem rX {H : Type} {enc : TypeId × Value → H} {W : World} {base : Nat} {v : Value} {d : DataW H} {p : List MemPlace} {M : Nat → Prop} {r : Go.Reach} {b0 : Nat} (_hM : ∀ b,b < W.heap.size → M b)
  (hval : Value.okWide Tryz.prog W r b0 9 v) (h : DataW.Trod enc Tryz.prog W base (fun _ => true) true 9 v d p) : ∃ l : By,l.length ≤ maxLen ∧ RepZ W M v (ss l) :=by
 obtain ⟨s,rfl,_,_,hs⟩ :=Go.ChangeMaps.open_string Tryz.underlying9 hval h
 obtain ⟨l,rfl⟩ :=toB s
 exact ⟨l,by simpa [ByteArray.size] using hs,.v _⟩
theorem tA {P : Program} {W : World} {t e : TypeId} {len fuel : Nat} {cs : List Value} {zs : List (List UInt8)} {p : List MemPlace} (hu : P.underlying t = some (.array len e)) (he : P.underlying e = some .string) (hC : P.cellsOf e = 1) (hCt : P.cellsOf t = len)
  (h : DataW.trod (fun _ => ()) P W 0 (fun _ => true) false fuel t cs = some (.agg (zs.map fun z => .lit (.string z)),p)) : cs = zs.map fun z => .string ⟨z.toArray⟩ :=by
 obtain ⟨xs,m,_,hx,hl,hxl,hi⟩ :=DataW.trod_array hu h
 have hdat : xs.map (·.1) = zs.map fun z => .lit (.string z) :=by
  have :=(Prod.mk.inj hx).1
  simpa using this.symm
 have hzl : zs.length = len :=by
  have :=congrArg List.length hdat
  simpa [hxl] using this.symm
 rw [hCt] at hl
 simp only [hC,Nat.mul_one] at hi
 refine List.ext_getElem (by rw [List.length_map]; omega) fun i h1 h2 => ?_
 have h3 :=hi i (by omega)
 rw [List.drop_eq_getElem_cons h1,List.take_succ_cons,List.take_zero] at h3
 have hxi : i < xs.length :=by omega
 rw [List.getElem?_eq_getElem hxi] at h3
 obtain ⟨z,e1,e2,_⟩ :=DataW.trod_string he h3
 have e3 : cs[i] = .string z :=by simpa using e1
 have e4 : (xs.map (·.1))[i]'(by rw [List.length_map]; exact hxi) = .lit (.string z.data.toList) :=by rw [List.getElem_map,e2]
 have e5 : (zs.map fun z => (DataW.lit (.string z) : DataW Unit))[i]'(by rw [List.length_map]; omega) = .lit (.string z.data.toList) :=by
  rw [← e4]
  simp only [hdat]
 rw [List.getElem_map] at e5
 have e6 : zs[i] = z.data.toList :=by simpa using e5
 rw [e3,List.getElem_map,e6]
theorem nP {P : Program} {W : World} {l : List (String × DataW Unit)} (h : laidMet P l W) {n : String} {zs : List (List UInt8)} (hm : (n,.agg (zs.map fun z => .lit (.string z))) ∈ l) {g : Nat} {t e : TypeId} {len : Nat}
  (hg : P.globalNamed n = some g) (ht : (P.globals[g]?).map (·.type) = some t) (hu : P.underlying t = some (.array len e)) (he : P.underlying e = some .string) (hC : P.cellsOf e = 1) (hCt : P.cellsOf t = len) :
  ∃ t f,W.heap[g]? = some (.cells (zs.map fun z => Value.string ⟨z.toArray⟩).toArray t f) :=by
 obtain ⟨ps,hv,_⟩ :=h
 obtain ⟨g',t',cs,fuel,p,h1,h2,h3,h4⟩ :=pZ hv hm
 rw [hg] at h1
 cases h1
 rw [ht] at h2
 cases h2
 have hcs :=tA hu he hC hCt h4
 simp only [World.var?,hg,Option.bind_some] at h3
 split at h3
 · rename_i cs' a b hh
   cases h3
   exact ⟨a,b,by rw [hh,← hcs]⟩
 · cases h3
theorem wI {W : World} (h : ∀ p ∈ globs,∃ t f,W.heap[p.1]? = some (.cells p.2.toArray t f)) (hi : ∀ g ∈ globI,∃ m t f,W.heap[g]? = some (.cells #[.int .i64 m] t f)) : GlobW W (fun b => b < W.heap.size) :=by
 refine ⟨fun p hp => ?_,fun g hg => by
  obtain ⟨m,t,f,hh⟩ :=hi g hg
  exact ⟨(Array.getElem?_eq_some_iff.1 hh).1,m,t,f,hh⟩⟩
 obtain ⟨t,f,hh⟩ :=h p hp
 refine ⟨(Array.getElem?_eq_some_iff.1 hh).1,fun j c hc => ?_,t,f,hh⟩
 simp [World.cell?,hh,hc]
theorem oL {W : World} (hSh : W.ShapedOpen Tryz.prog) (h : laidMet Tryz.prog Rows.topScheduleRow.laid W) : GlobW W (fun b => b < W.heap.size) :=
 wI (fun p hp => by
  have hp2 : p = (0,usesL.map fun z => Value.string ⟨z.toArray⟩) ∨ p = (1,signs.map fun z => Value.string ⟨z.toArray⟩) :=by
   rw [globs] at hp
   simpa [usesL,signs] using hp
  rcases hp2 with rfl | rfl
  · exact nP (zs := usesL) h (n := "stokvel/entry.uses") (List.mem_of_getElem? (i := 1) (by kernel_rfl)) (len := 21) (by kernel_rfl) (by kernel_rfl) Tryz.underlying172 Tryz.underlying9 (by kernel_rfl) (by kernel_rfl)
  · exact nP (zs := signs) h (n := "stokvel/lex.signs") (List.mem_of_getElem? (i := 0) (by kernel_rfl)) (len := 11) (by kernel_rfl) (by kernel_rfl) Tryz.underlying194 Tryz.underlying9 (by kernel_rfl) (by kernel_rfl))
  (fun g hg => by
   have : g = 2 :=by rw [globI] at hg; simpa using hg
   subst this
   exact s0 hSh (g :=2) (zero :=#[.int .i64 0]) (t :=3) (u :=3) (of_decide_eq_true (by kernel_rfl)) (by kernel_rfl) (by kernel_rfl) (by kernel_rfl) (by kernel_rfl) Tryz.underlying3)
noncomputable def laidWorld (os : Os) : World :=layAll Tryz.prog (World.holding Tryz.prog os ⟨#[],#[],[]⟩) Rows.topScheduleRow.laid
theorem xJ (os : Os) (args : Array Value) : laidMet Tryz.prog Rows.topScheduleRow.laid ((laidWorld os).forCall (fun _ _ => 0) ⟨#[],args,[]⟩).memory :=
 laidMet_of_run3 8 (by kernel_rfl) (by kernel_rfl) (by kernel_rfl)
end Go.Proofs.YtaolljbpencjnaaGreatDoor

