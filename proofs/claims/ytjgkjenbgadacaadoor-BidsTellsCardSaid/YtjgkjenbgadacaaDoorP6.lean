/-
  Lemmas for the statement at the top.
-/
import Derived.Test.YtjgkjenbgadacaaDoorFw4
import Derived.Test.YtjgkjenbgadacaaDoorP4
import Derived.Test.YtjgkjenbgadacaaDoorFw5
set_option linter.all false
namespace Go.Proofs.YtjgkjenbgadacaaDoor
def val : List Int → Int
  | [] => 0
  | d :: l => d + 1048576 * val l
end Go.Proofs.YtjgkjenbgadacaaDoor

namespace Go.Proofs.YtjgkjenbgadacaaDoor
open Go.RowKit Go.Ab
abbrev ii (n : Int) : AV := .v (.int .i64 n)
abbrev uu (n : Int) : AV := .v (.int .u64 n)
abbrev bb (b : Bool) : AV := .v (.bool b)
abbrev il (l : List Int) : AV := .sl (l.map ii)
theorem mixed : Tryd.prog.follows .mixedOrders = true := by kernel_rfl
@[go_sem] theorem nth_ii {L : List Int} {k : Nat} (h : k < L.length) : nth (L.map ii) k = ii L[k] := nth_map ii h
@[go_sem] theorem beqI (a b : Int) : (a == b) = decide (a = b) := by rw [Bool.eq_iff_iff]; simp
@[go_sem] theorem bneI (a b : Int) : (a != b) = !decide (a = b) := by rw [bne, beqI]
@[go_sem] theorem beqB (a b : Bool) : (a == b) = decide (a = b) := by cases a <;> cases b <;> rfl
@[go_sem] theorem wm1 : IntKind.i64.wrap (-1) = -1 := by decide
@[go_sem] theorem nth_nil (n : Nat) : nth [] n = .bad := rfl
theorem nat_mask (n : Nat) : n &&& 1048575 = n % 1048576 := Nat.and_two_pow_sub_one_eq_mod n 20
theorem nat_one (n : Nat) : n &&& 1 = n % 2 := Nat.and_two_pow_sub_one_eq_mod n 1
@[go_sem] theorem and_mask (x : Int) : andI .i64 x 1048575 = x % 1048576 := by
  unfold andI
  rw [BitVec.toNat_and, BitVec.toNat_ofInt, BitVec.toNat_ofInt]
  show IntKind.i64.wrap (((x % (2 ^ 64 : Nat)).toNat &&& ((1048575 : Int) % (2 ^ 64 : Nat)).toNat : Nat) : Int) = _
  rw [show ((1048575 : Int) % (2 ^ 64 : Nat)).toNat = 1048575 by decide, nat_mask, IntWalk.i64_in _ (by omega)]
  omega
@[go_sem] theorem and_one (x : Int) : andI .i64 x 1 = x % 2 := by
  unfold andI
  rw [BitVec.toNat_and, BitVec.toNat_ofInt, BitVec.toNat_ofInt]
  show IntKind.i64.wrap (((x % (2 ^ 64 : Nat)).toNat &&& ((1 : Int) % (2 ^ 64 : Nat)).toNat : Nat) : Int) = _
  rw [show ((1 : Int) % (2 ^ 64 : Nat)).toNat = 1 by decide, nat_one, IntWalk.i64_in _ (by omega)]
  omega
@[go_sem] theorem fdB (x : Int) : x.fdiv 1048576 = x / 1048576 := Int.fdiv_eq_ediv_of_nonneg _ (by decide)
end Go.Proofs.YtjgkjenbgadacaaDoor

namespace Go.Proofs.YtjgkjenbgadacaaDoor
open Go.RowKit Go.Ab
attribute [local irreducible] AWP Go.Ab.Sub Means MeansH CallK CallG CallT CallGT
theorem isNaN_m (x : Int) : Means false Tryd.prog 78 [ii x] (bb false) := by
  refine means_fn false 6 [.tmp 2] Tryd.func78 rfl rfl rfl (by simp) (by decide) rfl fun X hX => ?_
  (repeat (first | refine awp_seq ?_ | refine awp_block ?_ | ((first | refine awp_runG [0, 2] hX ?_ | refine awp_drawnG [0, 2] hX mixed ?_ | refine awp_ret ?_ | refine awp_skip ?_ | refine awp_exit ?_); (simp [go_sem]; try (refine ⟨by kernel_rfl, ?_⟩)))))
def cmpI (x y : Int) : Int := if x < y then -1 else if y < x then 1 else 0
theorem cmpI_lt {x y : Int} : cmpI x y < 0 ↔ x < y := by unfold cmpI; split <;> (try split) <;> omega
theorem cmp_m (x y : Int) : Means false Tryd.prog 67 [ii x, ii y] (ii (cmpI x y)) := by
  refine means_fn false 20 [.tmp 4] Tryd.func67 rfl rfl rfl (by simp) (by decide) rfl fun X hX => ?_
  (repeat (first | refine awp_seq ?_ | refine awp_block ?_ | ((first | refine awp_runG [0, 1, 4, 5, 6, 11, 12, 13, 16, 19] hX ?_ | refine awp_drawnG [0, 1, 4, 5, 6, 11, 12, 13, 16, 19] hX mixed ?_ | refine awp_ret ?_ | refine awp_skip ?_ | refine awp_exit ?_); (simp [go_sem]; try (refine ⟨by kernel_rfl, ?_⟩)))))
  first | refine callK_intro (isNaN_m x) rfl (by simp [go_sem]) rfl ?_ | refine callT_intro (isNaN_m x) rfl (by simp [go_sem]) rfl ?_
  try (simp [go_sem]; try (refine ⟨by kernel_rfl, ?_⟩))
  (repeat (first | refine awp_seq ?_ | refine awp_block ?_ | ((first | refine awp_runG [0, 1, 4, 5, 6, 11, 12, 13, 16, 19] hX ?_ | refine awp_drawnG [0, 1, 4, 5, 6, 11, 12, 13, 16, 19] hX mixed ?_ | refine awp_ret ?_ | refine awp_skip ?_ | refine awp_exit ?_); (simp [go_sem]; try (refine ⟨by kernel_rfl, ?_⟩)))))
  first | refine callK_intro (isNaN_m y) rfl (by simp [go_sem]) rfl ?_ | refine callT_intro (isNaN_m y) rfl (by simp [go_sem]) rfl ?_
  try (simp [go_sem]; try (refine ⟨by kernel_rfl, ?_⟩))
  (repeat (first | refine awp_seq ?_ | refine awp_block ?_ | ((first | refine awp_runG [0, 1, 4, 5, 6, 11, 12, 13, 16, 19] hX ?_ | refine awp_drawnG [0, 1, 4, 5, 6, 11, 12, 13, 16, 19] hX mixed ?_ | refine awp_ret ?_ | refine awp_skip ?_ | refine awp_exit ?_); (simp [go_sem]; try (refine ⟨by kernel_rfl, ?_⟩)))))
  refine awp_cond (b := false) (by simp [go_sem]) (fun hb => by cases hb) (fun _ => ?_)
  (repeat (first | refine awp_seq ?_ | refine awp_block ?_ | ((first | refine awp_runG [0, 1, 4, 5, 6, 11, 12, 13, 16, 19] hX ?_ | refine awp_drawnG [0, 1, 4, 5, 6, 11, 12, 13, 16, 19] hX mixed ?_ | refine awp_ret ?_ | refine awp_skip ?_ | refine awp_exit ?_); (simp [go_sem]; try (refine ⟨by kernel_rfl, ?_⟩)))))
  refine awp_cond (b := false) (by simp [go_sem]) (fun hb => by cases hb) (fun _ => ?_)
  (repeat (first | refine awp_seq ?_ | refine awp_block ?_ | ((first | refine awp_runG [0, 1, 4, 5, 6, 11, 12, 13, 16, 19] hX ?_ | refine awp_drawnG [0, 1, 4, 5, 6, 11, 12, 13, 16, 19] hX mixed ?_ | refine awp_ret ?_ | refine awp_skip ?_ | refine awp_exit ?_); (simp [go_sem]; try (refine ⟨by kernel_rfl, ?_⟩)))))
  refine awp_cond (b := decide (x < y)) (by simp [go_sem]) (fun hb => ?_) (fun hb => ?_)
  · simp at hb
    (repeat (first | refine awp_seq ?_ | refine awp_block ?_ | ((first | refine awp_runG [0, 1, 4, 5, 6, 11, 12, 13, 16, 19] hX ?_ | refine awp_drawnG [0, 1, 4, 5, 6, 11, 12, 13, 16, 19] hX mixed ?_ | refine awp_ret ?_ | refine awp_skip ?_ | refine awp_exit ?_); (simp [go_sem]; try (refine ⟨by kernel_rfl, ?_⟩)))))
    simp [cmpI, hb]
  · simp at hb
    (repeat (first | refine awp_seq ?_ | refine awp_block ?_ | ((first | refine awp_runG [0, 1, 4, 5, 6, 11, 12, 13, 16, 19] hX ?_ | refine awp_drawnG [0, 1, 4, 5, 6, 11, 12, 13, 16, 19] hX mixed ?_ | refine awp_ret ?_ | refine awp_skip ?_ | refine awp_exit ?_); (simp [go_sem]; try (refine ⟨by kernel_rfl, ?_⟩)))))
    refine awp_cond (b := decide (y < x)) (by simp [go_sem]) (fun hc => ?_) (fun hc => ?_)
    · simp at hc
      (repeat (first | refine awp_seq ?_ | refine awp_block ?_ | ((first | refine awp_runG [0, 1, 4, 5, 6, 11, 12, 13, 16, 19] hX ?_ | refine awp_drawnG [0, 1, 4, 5, 6, 11, 12, 13, 16, 19] hX mixed ?_ | refine awp_ret ?_ | refine awp_skip ?_ | refine awp_exit ?_); (simp [go_sem]; try (refine ⟨by kernel_rfl, ?_⟩)))))
      rw [cmpI, if_neg (by omega), if_pos hc]
    · simp at hc
      (repeat (first | refine awp_seq ?_ | refine awp_block ?_ | ((first | refine awp_runG [0, 1, 4, 5, 6, 11, 12, 13, 16, 19] hX ?_ | refine awp_drawnG [0, 1, 4, 5, 6, 11, 12, 13, 16, 19] hX mixed ?_ | refine awp_ret ?_ | refine awp_skip ?_ | refine awp_exit ?_); (simp [go_sem]; try (refine ⟨by kernel_rfl, ?_⟩)))))
      rw [cmpI, if_neg (by omega), if_neg (by omega)]
abbrev rowI (L : List Int) : Cell := .row ⟨3, 1, L.map ii⟩
theorem getD_lt {L : List Int} {j : Nat} (h : j < L.length) : L.getD j 0 = L[j] := by rw [List.getD_eq_getElem?_getD, List.getElem?_eq_getElem h]; rfl
def kf (R : List Int) (x : Int) : Int := R.getD x.toNat 0
def okR (R : List Int) : Prop := ∀ r ∈ R, 0 ≤ r ∧ r ≤ 4611686018427387904
def cmpC (R : List Int) (x y : Int) : Int := cmpI (kf R y) (kf R x)
theorem cmp_neg (R : List Int) (x y : Int) : cmpC R x y < 0 ↔ kf R y < kf R x := by unfold cmpC; exact cmpI_lt
theorem kf_at {R : List Int} {x : Int} (h : 0 ≤ x ∧ x < R.length) : ∃ k, ∃ hk : k < R.length, x = (k : Int) ∧ kf R x = R[k] := ⟨x.toNat, by omega, by omega, getD_lt (by omega)⟩
theorem clo_m (R : List Int) (hok : okR R) (x y : Int) (hx : 0 ≤ x ∧ x < R.length) (hy : 0 ≤ y ∧ y < R.length) : MeansH Tryd.prog 66 [.row ⟨25, 1, [.ow 1]⟩, rowI R] [ii x, ii y, .el 0 1 0 0] (ii (cmpC R x y)) [.row ⟨25, 1, [.ow 1]⟩, rowI R] := by
  obtain ⟨i, hi, rfl, e1⟩ := kf_at hx
  obtain ⟨j, hj, rfl, e2⟩ := kf_at hy
  have e : cmpC R i j = cmpI R[j] R[i] := by unfold cmpC; rw [e1, e2]
  rw [e]
  refine meansH_fn 2 15 [.tmp 5] Tryd.func66 rfl rfl rfl (by simp) (by decide) rfl fun X hX => ?_
  (repeat (first | refine awp_seq ?_ | refine awp_block ?_ | ((first | refine awp_runG [0, 1, 2, 5, 1000000, 1000001] hX ?_ | refine awp_drawnG [0, 1, 2, 5, 1000000, 1000001] hX mixed ?_ | refine awp_skip ?_ | refine awp_exit ?_); (simp [go_sem, hi, hj]; try (refine ⟨by kernel_rfl, ?_⟩)))))
  first | refine callK_intro (cmp_m R[j] R[i]) rfl (by simp [go_sem]) rfl ?_ | refine callT_intro (cmp_m R[j] R[i]) rfl (by simp [go_sem]) rfl ?_
  try (simp [go_sem]; try (refine ⟨by kernel_rfl, ?_⟩))
  (repeat (first | refine awp_seq ?_ | refine awp_block ?_ | ((first | refine awp_runG [0, 1, 2, 5, 1000000, 1000001] hX ?_ | refine awp_drawnG [0, 1, 2, 5, 1000000, 1000001] hX mixed ?_ | refine awp_skip ?_ | refine awp_exit ?_); (simp [go_sem]; try (refine ⟨by kernel_rfl, ?_⟩)))))
  refine awp_ret ?_; (try simp only [thenQ, blkQ, loopQ]); refine retH_ret [(5, ii (cmpI R[j] R[i])), (1000000, .ow 0), (1000001, .ow 1)] [.old 0 ⟨25, 1, [.ow 1]⟩, .old 1 ⟨3, 1, R.map ii⟩] ?_
  simp [go_sem]
end Go.Proofs.YtjgkjenbgadacaaDoor

namespace Go.Proofs.YtjgkjenbgadacaaDoor
open Go.RowKit Go.Ab
attribute [local irreducible] AWP Go.Ab.Sub Means MeansH CallK CallG CallT CallGT
abbrev ob (b : Bd) : AV := .agg [ii b.m, ii b.w, ii b.n, bb b.o]
abbrev bl (L : List Bd) : AV := .sl (L.map ob)
theorem nth_ob {L : List Bd} {k : Nat} (h : k < L.length) : nth (L.map ob) k = ob L[k] := nth_map _ h
namespace B
abbrev bsl (R : List Bd) : AV := bl R
def okR (_ : List Bd) : Prop := True
def cmpC (R : List Bd) (x y : Int) : Int := if kf R y < kf R x then -1 else if kf R x < kf R y then 1 else 0
theorem cmp_neg (R : List Bd) (x y : Int) : cmpC R x y < 0 ↔ kf R y < kf R x := by unfold cmpC; split <;> (try split) <;> omega
set_option maxHeartbeats 4000000 in
set_option maxRecDepth 20000 in
theorem clo_m (R : List Bd) (_hok : okR R) (x y : Int) (hx : 0 ≤ x ∧ x < R.length) (hy : 0 ≤ y ∧ y < R.length) : MeansH Tryd.prog 47 [.row ⟨22, 1, [bsl R]⟩] [ii x, ii y, .el 0 1 0 0] (ii (cmpC R x y)) [.row ⟨22, 1, [bsl R]⟩] := by
  obtain ⟨i, hi, rfl, e1⟩ := kf_at hx
  obtain ⟨j, hj, rfl, e2⟩ := kf_at hy
  unfold cmpC
  rw [e1, e2]
  have n1 := nth_ob hi
  have n2 := nth_ob hj
  refine meansH_fn 1 30 [.tmp 5] Tryd.func47 rfl rfl rfl (by simp) (by decide) rfl fun X hX => ?_
  (repeat (first | refine awp_seq ?_ | refine awp_block ?_ | ((first | refine awp_runG [0, 1, 2, 5, 6, 18, 1000000] hX ?_ | refine awp_drawnG [0, 1, 2, 5, 6, 18, 1000000] hX mixed ?_ | refine awp_skip ?_ | refine awp_exit ?_); (simp [go_sem, hi, hj, n1, n2]; try (refine ⟨by kernel_rfl, ?_⟩)))))
  refine awp_cond (b := decide (R[j].n < R[i].n)) (by simp [go_sem]) (fun hd => ?_) (fun hd => ?_)
  · simp at hd
    (repeat (first | refine awp_seq ?_ | refine awp_block ?_ | ((first | refine awp_runG [0, 1, 2, 5, 6, 18, 1000000] hX ?_ | refine awp_drawnG [0, 1, 2, 5, 6, 18, 1000000] hX mixed ?_ | refine awp_skip ?_ | refine awp_exit ?_); (simp [go_sem]; try (refine ⟨by kernel_rfl, ?_⟩)))))
    refine awp_ret ?_; (try simp only [thenQ, blkQ, loopQ]); refine retH_ret [(5, ii (-1)), (1000000, .ow 0)] [.old 0 ⟨22, 1, [bsl R]⟩] ?_
    simp [go_sem, hd]
  · simp at hd
    have hd2 : ¬ R[j].n < R[i].n := by omega
    (repeat (first | refine awp_seq ?_ | refine awp_block ?_ | ((first | refine awp_runG [0, 1, 2, 5, 6, 18, 1000000] hX ?_ | refine awp_drawnG [0, 1, 2, 5, 6, 18, 1000000] hX mixed ?_ | refine awp_skip ?_ | refine awp_exit ?_); (simp [go_sem, hi, hj, n1, n2]; try (refine ⟨by kernel_rfl, ?_⟩)))))
    refine awp_cond (b := decide (R[i].n < R[j].n)) (by simp [go_sem]) (fun hq => ?_) (fun hq => ?_)
    · simp at hq
      (repeat (first | refine awp_seq ?_ | refine awp_block ?_ | ((first | refine awp_runG [0, 1, 2, 5, 6, 18, 1000000] hX ?_ | refine awp_drawnG [0, 1, 2, 5, 6, 18, 1000000] hX mixed ?_ | refine awp_skip ?_ | refine awp_exit ?_); (simp [go_sem]; try (refine ⟨by kernel_rfl, ?_⟩)))))
      refine awp_ret ?_; (try simp only [thenQ, blkQ, loopQ]); refine retH_ret [(5, ii 1), (1000000, .ow 0)] [.old 0 ⟨22, 1, [bsl R]⟩] ?_
      simp [go_sem, hd2, hq]
    · simp at hq
      have hq2 : ¬ R[i].n < R[j].n := by omega
      (repeat (first | refine awp_seq ?_ | refine awp_block ?_ | ((first | refine awp_runG [0, 1, 2, 5, 6, 18, 1000000] hX ?_ | refine awp_drawnG [0, 1, 2, 5, 6, 18, 1000000] hX mixed ?_ | refine awp_skip ?_ | refine awp_exit ?_); (simp [go_sem]; try (refine ⟨by kernel_rfl, ?_⟩)))))
      refine awp_ret ?_; (try simp only [thenQ, blkQ, loopQ]); refine retH_ret [(5, ii 0), (1000000, .ow 0)] [.old 0 ⟨22, 1, [bsl R]⟩] ?_
      simp [go_sem, hd2, hq2]
end B
end Go.Proofs.YtjgkjenbgadacaaDoor

namespace Go.Proofs.YtjgkjenbgadacaaDoor
def put (L : List Bd) (b : Bd) : List Bd × Int :=
  if okL L = true ∧ okB b = true then (if clashB L b = true then ([], 5) else (L ++ [b], 0)) else ([], 1)
def atM (L : List Bd) (m : Int) : Nat := L.findIdx fun b => decide (b.m = m)
def opened (b : Bd) (n : Int) : Bd := ⟨b.m, b.w, n, true⟩
def opn (L : List Bd) (m n : Int) : List Bd × Int :=
  if okL L = true ∧ coinB n = true then
    (match L[atM L m]? with
    | none => ([], 4)
    | some b => if b.o = true then ([], 5) else (L.set (atM L m) (opened b n), 0))
  else ([], 1)
theorem atM_lt {L : List Bd} {m : Int} (h : atM L m < L.length) : L[atM L m].m = m := by
  have := List.findIdx_getElem (p := fun b : Bd => decide (b.m = m)) (w := h)
  exact of_decide_eq_true this
theorem atM_not {L : List Bd} {m : Int} {j : Nat} (h : j < atM L m) (hj : j < L.length) : L[j].m ≠ m := by
  have := List.not_of_lt_findIdx (p := fun b : Bd => decide (b.m = m)) h
  simpa using this
theorem atM_le (L : List Bd) (m : Int) : atM L m ≤ L.length := List.findIdx_le_length
end Go.Proofs.YtjgkjenbgadacaaDoor

namespace Go.Proofs.YtjgkjenbgadacaaDoor
def sumL (l : List Int) : Int := l.foldr (· + ·) 0
@[simp] theorem sumL_nil : sumL [] = 0 := rfl
@[simp] theorem sumL_cons (a : Int) (l : List Int) : sumL (a :: l) = a + sumL l := rfl
theorem sumL_app : ∀ a b : List Int, sumL (a ++ b) = sumL a + sumL b
  | [], b => by simp
  | x :: a, b => by simp [sumL_app a b]; omega
theorem sumL_succ {l : List Int} {k : Nat} (h : k < l.length) : sumL (l.take (k + 1)) = sumL (l.take k) + l[k] := by
  rw [List.take_succ_eq_append_getElem h, sumL_app]; simp
def fill (C : List Int) (l : Int) : Int := sumL (C.map fun c => min c l)
theorem fill_cons (c : Int) (C : List Int) (l : Int) : fill (c :: C) l = min c l + fill C l := rfl
def shr (l : Int) : Int → List Int → List Int
  | _, [] => []
  | left, c :: C => if l < c ∧ 0 < left then (l + 1) :: shr l (left - 1) C else min c l :: shr l left C
structure isLv (C : List Int) (h l : Int) : Prop where
  low : 0 ≤ l
  le : fill C l ≤ h
  lt : h < fill C (l + 1)
end Go.Proofs.YtjgkjenbgadacaaDoor

namespace Go.Proofs.YtjgkjenbgadacaaDoor
def idxI (n : Nat) : List Int := (List.range n).map fun i : Nat => (i : Int)
theorem idxI_len (n : Nat) : (idxI n).length = n := by simp [idxI]
theorem idxI_at {n i : Nat} (h : i < (idxI n).length) : (idxI n)[i] = i := by simp [idxI]
theorem idxI_nodup (n : Nat) : (idxI n).Nodup := List.pairwise_iff_getElem.2 fun i j hi hj hij => by rw [idxI_at hi, idxI_at hj]; omega
theorem idxI_ord (n : Nat) : ∀ i j (hi : i < (idxI n).length) (hj : j < (idxI n).length), i < j → (idxI n)[i] < (idxI n)[j] := fun i j hi hj hij => by rw [idxI_at hi, idxI_at hj]; omega
theorem idxI_mem {n : Nat} {x : Int} : x ∈ idxI n ↔ 0 ≤ x ∧ x < n := by
  simp only [idxI, List.mem_map, List.mem_range]
  constructor
  · rintro ⟨i, hi, rfl⟩; omega
  · rintro ⟨h1, h2⟩; exact ⟨x.toNat, by omega, by omega⟩
def qF (h s : Int) (C : List Int) : List Int := C.map fun c => h * c / s
def rF (h s : Int) (C : List Int) : List Int := C.map fun c => h * c % s
theorem qF_len (h s : Int) (C : List Int) : (qF h s C).length = C.length := by simp [qF]
theorem rF_len (h s : Int) (C : List Int) : (rF h s C).length = C.length := by simp [rF]
theorem qr_sum (h s : Int) : ∀ C : List Int, s * sumL (qF h s C) + sumL (rF h s C) = h * sumL C
  | [] => by simp [qF, rF]
  | c :: C => by
    have ih := qr_sum h s C
    have := Int.mul_ediv_add_emod (h * c) s
    simp only [qF, rF, List.map_cons, sumL_cons] at ih ⊢
    rw [Int.mul_add, Int.mul_add]; omega
theorem rF_bd {h s : Int} (hs : 0 < s) : ∀ C : List Int, 0 ≤ sumL (rF h s C) ∧ sumL (rF h s C) ≤ C.length * (s - 1)
  | [] => by simp [rF]
  | c :: C => by
    have ih := rF_bd (h := h) hs C
    have h1 := Int.emod_nonneg (h * c) (show s ≠ 0 by omega)
    have h2 := Int.emod_lt_of_pos (h * c) hs
    simp only [rF, List.map_cons, sumL_cons, List.length_cons] at ih ⊢
    rw [show ((C.length + 1 : Nat) : Int) * (s - 1) = C.length * (s - 1) + (s - 1) by rw [Int.natCast_add, Int.add_mul]; simp]
    omega
theorem left_bd {h : Int} {C : List Int} (hs : 0 < sumL C) : 0 ≤ h - sumL (qF h (sumL C) C) ∧ h - sumL (qF h (sumL C) C) ≤ C.length := by
  obtain ⟨s, e⟩ : ∃ s, sumL C = s := ⟨_, rfl⟩
  have h1 := qr_sum h s C
  have h2 := rF_bd (h := h) (s := s) (by omega) C
  rw [e] at hs h1 ⊢
  have h3 : s * (h - sumL (qF h s C)) = sumL (rF h s C) := by rw [Int.mul_sub, Int.mul_comm s h]; omega
  have h4 : (C.length : Int) * (s - 1) ≤ s * C.length := by rw [Int.mul_sub, Int.mul_comm s]; omega
  refine ⟨?_, ?_⟩
  · exact Int.le_of_mul_le_mul_left (by rw [h3]; simpa using h2.1) hs
  · exact Int.le_of_mul_le_mul_left (show s * _ ≤ s * _ by omega) hs
def bump (L : List Int) (x : Int) : List Int := L.set x.toNat (L.getD x.toNat 0 + 1)
def bumps (L : List Int) (O : List Int) : List Int := O.foldl bump L
theorem bump_len (L : List Int) (x : Int) : (bump L x).length = L.length := by simp [bump]
theorem bumps_len : ∀ (O L : List Int), (bumps L O).length = L.length
  | [], _ => rfl
  | x :: O, L => by
    have := bumps_len O (bump L x)
    rwa [bump_len] at this
theorem bumps_succ {L O : List Int} {k : Nat} (h : k < O.length) : bumps L (O.take (k + 1)) = bump (bumps L (O.take k)) O[k] := by
  unfold bumps; rw [List.take_succ_eq_append_getElem h, List.foldl_append]; rfl
theorem bump_bd {L : List Int} {x B : Int} (h : ∀ v ∈ L, 0 ≤ v ∧ v ≤ B) : ∀ v ∈ bump L x, 0 ≤ v ∧ v ≤ B + 1 := by
  intro v hv
  unfold bump at hv
  by_cases hx : x.toNat < L.length
  · have e : L.getD x.toNat 0 = L[x.toNat] := by rw [List.getD_eq_getElem?_getD, List.getElem?_eq_getElem hx]; rfl
    rcases List.mem_or_eq_of_mem_set hv with hv | rfl
    · have := h v hv; omega
    · rw [e]; have := h _ (List.getElem_mem hx); omega
  · rw [List.set_eq_of_length_le (by omega)] at hv
    have := h v hv; omega
theorem bumps_bd : ∀ (O : List Int) {L : List Int} {B : Int}, (∀ v ∈ L, 0 ≤ v ∧ v ≤ B) → ∀ v ∈ bumps L O, 0 ≤ v ∧ v ≤ B + O.length
  | [], L, B, h, v, hv => by have := h v hv; simp; omega
  | x :: O, L, B, h, v, hv => by
    have := bumps_bd O (bump_bd (x := x) h) v hv
    simp only [List.length_cons]; omega
end Go.Proofs.YtjgkjenbgadacaaDoor

namespace Go.Proofs.YtjgkjenbgadacaaDoor
theorem sumL_perm {a b : List Int} (h : a.Perm b) : sumL a = sumL b := by
  induction h with
  | nil => rfl
  | cons x _ ih => simp [ih]
  | swap x y l => simp; omega
  | trans _ _ ih1 ih2 => rw [ih1, ih2]
def kR (R : List Int) (x : Int) : Int := R.getD x.toNat 0
theorem map_idx (R : List Int) : (idxI R.length).map (kR R) = R := by
  refine List.ext_getElem (by simp [idxI]) fun i h1 h2 => ?_
  simp only [List.getElem_map, idxI, List.getElem_range, kR, Int.toNat_natCast]
  rw [List.getD_eq_getElem?_getD, List.getElem?_eq_getElem h2]; rfl
theorem sum_zero : ∀ {l : List Int}, (∀ x ∈ l, x = 0) → sumL l = 0
  | [], _ => rfl
  | x :: l, h => by rw [sumL_cons, h x (by simp), sum_zero (l := l) fun y hy => h y (by simp [hy])]; rfl
theorem sum_le {B : Int} (hB : 0 ≤ B) : ∀ {l : List Int}, (∀ x ∈ l, x ≤ B) → sumL l ≤ l.length * B
  | [], _ => by simp
  | x :: l, h => by
    have h1 := h x (by simp)
    have ih := sum_le hB (l := l) fun y hy => h y (by simp [hy])
    rw [sumL_cons, List.length_cons, show ((l.length + 1 : Nat) : Int) * B = l.length * B + B by rw [Int.natCast_add, Int.add_mul]; simp]; omega
theorem sum_less {B : Int} (hB : 0 ≤ B) : ∀ {l : List Int}, (∀ x ∈ l, x ≤ B) → (∃ x ∈ l, x ≤ 0) → sumL l + B ≤ l.length * B
  | [], _, h => by obtain ⟨x, hx, _⟩ := h; cases hx
  | x :: l, h, h2 => by
    have h1 := h x (by simp)
    have e : ((l.length + 1 : Nat) : Int) * B = l.length * B + B := by rw [Int.natCast_add, Int.add_mul]; simp
    rw [sumL_cons, List.length_cons, e]
    obtain ⟨y, hy, hy0⟩ := h2
    rcases List.mem_cons.1 hy with rfl | hy
    · have := sum_le hB (l := l) fun z hz => h z (by simp [hz]); omega
    · have := sum_less hB (l := l) (fun z hz => h z (by simp [hz])) ⟨y, hy, hy0⟩; omega
theorem more_pos {R : List Int} {s : Int} {m : Nat} (hs : 0 < s) (hR : ∀ r ∈ R, 0 ≤ r ∧ r < s) (hsum : sumL R = s * m) {x : Int} (hx : x ∈ (srt (kR R) (idxI R.length)).take m) : 0 < kR R x := by
  obtain ⟨O, hO⟩ : ∃ O, srt (kR R) (idxI R.length) = O := ⟨_, rfl⟩
  rw [hO] at hx
  have hp : O.Perm (idxI R.length) := by rw [← hO]; exact srt_perm _ _
  have hso : O.Pairwise (bef (kR R)) := by rw [← hO]; exact srt_sorted (idxI_nodup _)
  have hkb : ∀ y ∈ O, 0 ≤ kR R y ∧ kR R y < s := fun y hy => by
    have := idxI_mem.1 (hp.mem_iff.1 hy)
    have hl : y.toNat < R.length := by omega
    have e : kR R y = R[y.toNat] := by unfold kR; rw [List.getD_eq_getElem?_getD, List.getElem?_eq_getElem hl]; rfl
    rw [e]; exact hR _ (List.getElem_mem hl)
  have e1 : sumL (O.map (kR R)) = s * m := by rw [← hsum, sumL_perm (hp.map _), map_idx]
  rcases Int.lt_or_le 0 (kR R x) with h | h
  · exact h
  · exfalso
    have hxo : x ∈ O := List.mem_of_mem_take hx
    have e2 : O.map (kR R) = (O.take m).map (kR R) ++ (O.drop m).map (kR R) := by rw [← List.map_append, List.take_append_drop]
    have hz : sumL ((O.drop m).map (kR R)) = 0 := by
      refine sum_zero fun v hv => ?_
      obtain ⟨y, hy, rfl⟩ := List.mem_map.1 hv
      have hso' := hso
      rw [← List.take_append_drop m O, List.pairwise_append] at hso'
      have := hso'.2.2 x hx y hy
      have h2 := hkb y (List.mem_of_mem_drop hy)
      unfold bef at this; omega
    have hl := sum_less (B := s - 1) (by omega) (l := (O.take m).map (kR R)) (fun v hv => by
      obtain ⟨y, hy, rfl⟩ := List.mem_map.1 hv
      have := hkb y (List.mem_of_mem_take hy); omega) ⟨kR R x, List.mem_map.2 ⟨x, hx, rfl⟩, h⟩
    rw [e2, sumL_app, hz] at e1
    have hlen : ((O.take m).map (kR R)).length ≤ m := by simp; omega
    have h3 : (((O.take m).map (kR R)).length : Int) * (s - 1) ≤ m * (s - 1) := Int.mul_le_mul_of_nonneg_right (by omega) (by omega)
    have h4 : (m : Int) * (s - 1) = s * m - m := by rw [Int.mul_sub, Int.mul_comm]; omega
    have hx0 : 0 < m := by
      rcases Nat.eq_zero_or_pos m with rfl | h
      · simp at hx
      · exact h
    omega
theorem bumps_at : ∀ (O L : List Int) (i : Nat) (h : i < L.length) (h' : i < (bumps L O).length), O.Nodup → (∀ x ∈ O, 0 ≤ x) → (bumps L O)[i] = L[i] + (if (i : Int) ∈ O then 1 else 0)
  | [], L, i, h, h', _, _ => by simp [bumps]
  | x :: O, L, i, h, h', hn, h0 => by
    rw [List.nodup_cons] at hn
    have hx := h0 x (by simp)
    have e : (bumps L (x :: O))[i] = (bumps (bump L x) O)[i]'(by rw [bumps_len, bump_len]; exact h) := rfl
    rw [e, bumps_at O (bump L x) i (by rw [bump_len]; exact h) (by rw [bumps_len, bump_len]; exact h) hn.2 fun y hy => h0 y (by simp [hy])]
    simp only [bump, List.getElem_set]
    by_cases hxi : x.toNat = i
    · have hxe : x = (i : Int) := by omega
      rw [if_pos hxi, hxi, List.getD_eq_getElem?_getD, List.getElem?_eq_getElem h, if_neg (by rw [← hxe]; exact hn.1), if_pos (by rw [hxe]; simp)]
      simp
    · rw [if_neg hxi]
      have : (i : Int) ∈ x :: O ↔ (i : Int) ∈ O := by
        rw [List.mem_cons]; constructor
        · rintro (h | h)
          · omega
          · exact h
        · exact .inr
      simp only [this]
theorem bumps_sum : ∀ (O L : List Int), (∀ x ∈ O, 0 ≤ x ∧ x < L.length) → sumL (bumps L O) = sumL L + O.length
  | [], L, _ => by simp [bumps]
  | x :: O, L, h => by
    have hx := h x (by simp)
    have e : bumps L (x :: O) = bumps (bump L x) O := rfl
    have hs : sumL (bump L x) = sumL L + 1 := by
      have hl : x.toNat < L.length := by omega
      unfold bump
      rw [List.getD_eq_getElem?_getD, List.getElem?_eq_getElem hl, List.set_eq_take_append_cons_drop, if_pos hl]
      conv => rhs; rw [← List.take_append_drop x.toNat L]
      rw [sumL_app, sumL_app, List.drop_eq_getElem_cons hl, sumL_cons, sumL_cons]
      simp; omega
    rw [e, bumps_sum O (bump L x) fun y hy => by rw [bump_len]; exact h y (by simp [hy]), hs]; simp; omega
end Go.Proofs.YtjgkjenbgadacaaDoor

namespace Go.Proofs.YtjgkjenbgadacaaDoor
def inW (w : Int) : Bool := decide (0 ≤ w) && decide (w ≤ 1048576)
def okW (W : List Int) : Bool := W.all inW && decide (W.length ≤ 60)
def wsum (W : List Int) : Int := if okW W then sumL W else 0
def isAm (n : Int) : Bool := decide (0 ≤ n) && decide (n ≤ 1099511627776)
theorem inW_iff {w : Int} : inW w = true ↔ 0 ≤ w ∧ w ≤ 1048576 := by simp [inW]
theorem okW_mem {W : List Int} (h : okW W = true) {w : Int} (hw : w ∈ W) : 0 ≤ w ∧ w ≤ 1048576 := by
  simp only [okW, Bool.and_eq_true, List.all_eq_true] at h
  exact inW_iff.1 (h.1 w hw)
theorem okW_len {W : List Int} (h : okW W = true) : W.length ≤ 60 := by
  simp only [okW, Bool.and_eq_true, decide_eq_true_eq] at h
  exact h.2
theorem sumW_bd : ∀ {W : List Int}, W.all inW = true → 0 ≤ sumL W ∧ sumL W ≤ W.length * 1048576
  | [], _ => by simp
  | w :: W, h => by
    simp only [List.all_cons, Bool.and_eq_true] at h
    have ih := sumW_bd h.2
    have := inW_iff.1 h.1
    simp only [sumL_cons, List.length_cons]; push_cast; omega
theorem okW_sum {W : List Int} (h : okW W = true) : 0 ≤ sumL W ∧ sumL W ≤ 62914560 := by
  have h1 := okW_len h
  simp only [okW, Bool.and_eq_true] at h
  have := sumW_bd h.1
  omega
theorem wsum_pos {W : List Int} (h : wsum W ≠ 0) : okW W = true ∧ wsum W = sumL W ∧ 0 < sumL W := by
  unfold wsum at *
  by_cases hk : okW W = true
  · rw [if_pos hk] at h ⊢
    have := okW_sum hk
    exact ⟨hk, rfl, by omega⟩
  · rw [if_neg hk] at h; exact absurd rfl h
theorem all_succ {W : List Int} {k : Nat} (h : k < W.length) (h1 : (W.take k).all inW = true) (h2 : inW W[k] = true) : (W.take (k + 1)).all inW = true := by
  rw [List.take_succ_eq_append_getElem h, List.all_append, h1]; simp [h2]
theorem okW_bad {W : List Int} {k : Nat} (h : k < W.length) (h2 : inW W[k] = false) : wsum W = 0 := by
  unfold wsum
  rw [if_neg]
  intro hk
  simp only [okW, Bool.and_eq_true, List.all_eq_true] at hk
  have := hk.1 W[k] (List.getElem_mem h)
  rw [h2] at this; cases this
def wtd (W : List Int) (n : Int) : List Int :=
  bumps (qF n (sumL W) W) ((srt (kR (rF n (sumL W) W)) (idxI W.length)).take (n - sumL (qF n (sumL W) W)).toNat)
theorem wtd_len (W : List Int) (n : Int) : (wtd W n).length = W.length := by unfold wtd; rw [bumps_len, qF_len]
theorem wtd_spec {C : List Int} {h : Int} (hs0 : 0 < sumL C) :
    ∃ W : List Int, sumL (wtd C h) = h ∧ (∀ i (hi : i < C.length) (hi' : i < (wtd C h).length), (wtd C h)[i] = h * C[i] / sumL C + if (i : Int) ∈ W then 1 else 0) ∧
      (∀ i (hi : i < C.length), (i : Int) ∈ W → 0 < h * C[i] % sumL C) ∧
      (∀ i k (hi : i < C.length) (hk : k < C.length), (i : Int) ∈ W → (h * C[i] % sumL C < h * C[k] % sumL C ∨ (h * C[i] % sumL C = h * C[k] % sumL C ∧ k < i)) → (k : Int) ∈ W) := by
  have hlb := left_bd (h := h) hs0
  unfold wtd
  have hqr := qr_sum h (sumL C) C
  generalize sumL C = s at *
  obtain ⟨m, hm⟩ : ∃ m : Nat, (m : Int) = h - sumL (qF h s C) := ⟨(h - sumL (qF h s C)).toNat, by omega⟩
  rw [show (h - sumL (qF h s C)).toNat = m by omega]
  have hRl := rF_len h s C
  have hRb : ∀ r ∈ rF h s C, 0 ≤ r ∧ r < s := fun r hr => by
    simp only [rF, List.mem_map] at hr
    obtain ⟨c, _, rfl⟩ := hr
    exact ⟨Int.emod_nonneg _ (by omega), Int.emod_lt_of_pos _ hs0⟩
  have hsum : sumL (rF h s C) = s * m := by rw [hm, Int.mul_sub, Int.mul_comm s h]; omega
  have hkr : ∀ i (hi : i < C.length), kR (rF h s C) (i : Int) = h * C[i] % s := fun i hi => by
    unfold kR
    rw [Int.toNat_natCast, List.getD_eq_getElem?_getD, List.getElem?_eq_getElem (by rw [rF_len]; exact hi)]
    simp [rF]
  have hmp := fun x => more_pos (R := rF h s C) (m := m) hs0 hRb hsum (x := x)
  rw [hRl] at hmp
  have hp := srt_perm (kR (rF h s C)) (idxI C.length)
  have hso := srt_sorted (K := kR (rF h s C)) (idxI_nodup C.length)
  generalize srt (kR (rF h s C)) (idxI C.length) = O at *
  have hOm : ∀ x ∈ O, 0 ≤ x ∧ x < C.length := fun x hx => idxI_mem.1 (hp.mem_iff.1 hx)
  have hOn : O.Nodup := hp.nodup_iff.2 (idxI_nodup _)
  have hOl : O.length = C.length := by rw [hp.length_eq, idxI_len]
  refine ⟨O.take m, ?_, ?_, ?_, ?_⟩
  · rw [bumps_sum _ _ fun x hx => by rw [qF_len]; exact hOm x (List.mem_of_mem_take hx), List.length_take]
    omega
  · intro i hi hi'
    rw [bumps_at _ _ i (by rw [qF_len]; exact hi) hi' (hOn.sublist (List.take_sublist _ _)) fun x hx => (hOm x (List.mem_of_mem_take hx)).1]
    simp [qF]
  · intro i hi hx
    have := hmp i hx
    rwa [hkr i hi] at this
  · intro i k hi hk hx hb
    have hkO : (k : Int) ∈ O := hp.mem_iff.2 (idxI_mem.2 ⟨by omega, by omega⟩)
    rw [← List.take_append_drop m O] at hkO
    rcases List.mem_append.1 hkO with h1 | h1
    · exact h1
    · exfalso
      rw [← List.take_append_drop m O, List.pairwise_append] at hso
      have := hso.2.2 _ hx _ h1
      unfold bef at this
      rw [hkr i hi, hkr k hk] at this
      omega
theorem quo_split {n w s : Int} (hs : 0 < s) : n / s * w + n % s * w / s = n * w / s ∧ n % s * w % s = n * w % s := by
  have e : n * w = n % s * w + s * (n / s * w) := by
    have := Int.mul_ediv_add_emod n s
    rw [← Int.mul_assoc, ← Int.add_mul]
    congr 1; omega
  constructor
  · rw [e, Int.add_mul_ediv_left _ _ (by omega)]; omega
  · rw [e, Int.add_mul_emod_self_left]
theorem quo_bd {n w s : Int} (hn : 0 ≤ n ∧ n ≤ 1099511627776) (hw : 0 ≤ w ∧ w ≤ 1048576) (hs : 0 < s ∧ s ≤ 62914560) :
    0 ≤ n / s ∧ n / s ≤ 1099511627776 ∧ 0 ≤ n % s ∧ n % s < s ∧ 0 ≤ n / s * w ∧ n / s * w ≤ 1099511627776 * 1048576 ∧ 0 ≤ n % s * w ∧ n % s * w ≤ 62914560 * 1048576 ∧ 0 ≤ n % s * w / s ∧ n % s * w / s ≤ 62914560 * 1048576 := by
  have h1 := Int.ediv_nonneg hn.1 (show 0 ≤ s by omega)
  have h2 := Int.ediv_le_self s hn.1
  have h3 := Int.emod_nonneg n (show s ≠ 0 by omega)
  have h4 := Int.emod_lt_of_pos n hs.1
  have h5 := Int.mul_nonneg h1 hw.1
  have h6 : n / s * w ≤ 1099511627776 * 1048576 := Int.mul_le_mul (by omega) hw.2 hw.1 (by omega)
  have h7 := Int.mul_nonneg h3 hw.1
  have h8 : n % s * w ≤ 62914560 * 1048576 := Int.mul_le_mul (by omega) hw.2 hw.1 (by omega)
  have h9 := Int.ediv_nonneg h7 (show 0 ≤ s by omega)
  have h10 := Int.ediv_le_self s h7
  exact ⟨h1, by omega, h3, h4, h5, h6, h7, h8, h9, by omega⟩
theorem quo_le {n w s : Int} (hn : 0 ≤ n) (hw : 0 ≤ w ∧ w ≤ s) (hs : 0 < s) : 0 ≤ n * w / s ∧ n * w / s ≤ n :=
  ⟨Int.ediv_nonneg (Int.mul_nonneg hn hw.1) (by omega), Int.ediv_le_of_le_mul hs (Int.mul_le_mul_of_nonneg_left hw.2 hn)⟩
theorem mem_sum {W : List Int} (h : ∀ w ∈ W, 0 ≤ w) : ∀ {w : Int}, w ∈ W → w ≤ sumL W := by
  induction W with
  | nil => intro w hw; cases hw
  | cons a W ih =>
    intro w hw
    have h0 : 0 ≤ sumL W := by
      clear ih hw
      induction W with
      | nil => simp
      | cons b W ih => have := h b (by simp); have := ih (fun x hx => h x (by rcases List.mem_cons.1 hx with q | q <;> simp [q])); simp only [sumL_cons]; omega
    have ha := h a (by simp)
    rcases List.mem_cons.1 hw with q | q
    · subst q; simp only [sumL_cons]; omega
    · have := ih (fun x hx => h x (List.mem_cons_of_mem _ hx)) q; simp only [sumL_cons]; omega
theorem qF_in {W : List Int} {n : Int} (hok : okW W = true) (hn : 0 ≤ n) (hs : 0 < sumL W) : ∀ q ∈ qF n (sumL W) W, 0 ≤ q ∧ q ≤ n := by
  intro q hq
  simp only [qF, List.mem_map] at hq
  obtain ⟨w, hw, rfl⟩ := hq
  exact quo_le hn ⟨(okW_mem hok hw).1, mem_sum (fun x hx => (okW_mem hok hx).1) hw⟩ hs
end Go.Proofs.YtjgkjenbgadacaaDoor

namespace Go.Proofs.YtjgkjenbgadacaaDoor
open Go.Ab
theorem sumL_ones (q : Nat) : sumL (List.replicate q 1) = q := by
  induction q with
  | zero => rfl
  | succ q ih => rw [List.replicate_succ, sumL_cons, ih]; push_cast; omega
def evens (n : Int) (k : Nat) : List Int := wtd (List.replicate k 1) n
theorem evens_len (n : Int) (k : Nat) : (evens n k).length = k := by unfold evens; rw [wtd_len, List.length_replicate]
theorem evens_spec {n : Int} {k : Nat} (hk : 0 < k) : sumL (evens n k) = n ∧ (∀ i (hi : i < (evens n k).length), n / k ≤ (evens n k)[i] ∧ (evens n k)[i] ≤ n / k + 1) ∧
    ∀ i j (hi : i < (evens n k).length) (hj : j < (evens n k).length), i < j → (evens n k)[j] ≤ (evens n k)[i] := by
  have hs : sumL (List.replicate k 1) = (k : Int) := sumL_ones k
  obtain ⟨W, h1, h2, _, h4⟩ := wtd_spec (C := List.replicate k 1) (h := n) (by rw [hs]; omega)
  have hl := evens_len n k
  have hat : ∀ i (hi : i < (evens n k).length), (evens n k)[i] = n / k + if (i : Int) ∈ W then 1 else 0 := fun i hi => by
    have := h2 i (by simp; omega) hi
    rw [hs, List.getElem_replicate, Int.mul_one] at this
    exact this
  refine ⟨h1, fun i hi => ?_, fun i j hi hj hij => ?_⟩
  · rw [hat i hi]; split <;> omega
  · rw [hat i hi, hat j hj]
    by_cases hj2 : (j : Int) ∈ W
    · have := h4 j i (by simp; omega) (by simp; omega) hj2 (.inr ⟨by simp, hij⟩)
      rw [if_pos hj2, if_pos this]; omega
    · rw [if_neg hj2]; split <;> omega
def okMb (M : List Int) : Bool := M.all keyB && decide M.Nodup && decide (0 < M.length) && decide (M.length ≤ 60)
theorem okMb_iff (M : List Int) : okMb M = true ↔ (∀ x ∈ M, 0 ≤ x ∧ x < 200) ∧ M.Nodup ∧ 0 < M.length ∧ M.length ≤ 60 := by
  simp only [okMb, Bool.and_eq_true, List.all_eq_true, decide_eq_true_eq, keyB, and_assoc]
def memB (M : List Int) (b : Bd) : Bool := decide (b.w ∈ M)
def atI (M : List Int) (x : Int) : Nat := M.findIdx fun y => decide (y = x)
theorem atI_lt {M : List Int} {x : Int} (h : x ∈ M) : ∃ hi : atI M x < M.length, M[atI M x] = x := by
  have h1 : atI M x < M.length := List.findIdx_lt_length.2 ⟨x, h, by simp⟩
  refine ⟨h1, ?_⟩
  have := List.findIdx_getElem (p := fun y : Int => decide (y = x)) (w := h1)
  exact of_decide_eq_true this
theorem atI_not {M : List Int} {x : Int} {j : Nat} (h : j < atI M x) (hj : j < M.length) : M[j] ≠ x := by
  have := List.not_of_lt_findIdx (p := fun y : Int => decide (y = x)) h
  simpa using this
theorem atI_le (M : List Int) (x : Int) : atI M x ≤ M.length := List.findIdx_le_length
theorem atI_ge {M : List Int} {x : Int} (h : x ∉ M) : atI M x = M.length := by
  by_cases h1 : atI M x < M.length
  · have := List.findIdx_getElem (p := fun y : Int => decide (y = x)) (w := h1)
    simp at this
    exact absurd (this ▸ List.getElem_mem _) h
  · have := atI_le M x; omega
def winB (L : List Bd) (P : Int) (M : List Int) : Option Bd := (wins (L.filter (memB M)) P).bind fun w => (L.filter (memB M))[w]?
def potS (L : List Bd) (P : Int) (M : List Int) : List Int × Int :=
  if okL L = true ∧ coinB P = true ∧ okMb M = true then
    (match winB L P M with
    | none => ([], 4)
    | some b => if M.length = 1 then ([P], 0) else (insL (atI M b.w) (P - b.n) (evens b.n (M.length - 1)), 0))
  else ([], 1)
theorem winB_some {L : List Bd} {P : Int} {M : List Int} {b : Bd} (h : winB L P M = some b) : b ∈ L ∧ b.w ∈ M ∧ cntB P b = true := by
  unfold winB at h
  cases hw : wins (L.filter (memB M)) P with
  | none => rw [hw] at h; cases h
  | some w =>
    rw [hw] at h
    obtain ⟨hk, h1, _⟩ := wins_some.1 hw
    simp only [Option.bind_some, List.getElem?_eq_getElem hk, Option.some.injEq] at h
    rw [← h]
    have := List.mem_filter.1 (List.getElem_mem hk)
    exact ⟨this.1, by simpa [memB] using this.2, h1⟩
def bestTo (q : Bd → Bool) (L : List Bd) : Nat → Int
  | 0 => -1
  | k + 1 => if q (L.getD k default) && (decide (bestTo q L k < 0) || decide ((L.getD (bestTo q L k).toNat default).n < (L.getD k default).n)) then k else bestTo q L k
theorem bestTo_spec (q : Bd → Bool) (L : List Bd) : ∀ k : Nat, k ≤ L.length →
    (bestTo q L k = -1 ∧ ∀ j (hj : j < L.length), j < k → q L[j] = false) ∨ (∃ a : Nat, ∃ ha : a < L.length, bestTo q L k = a ∧ a < k ∧ q L[a] = true ∧ ∀ j (hj : j < L.length), j < k → q L[j] = true → L[j].n < L[a].n ∨ L[j].n = L[a].n ∧ a ≤ j)
  | 0, _ => .inl ⟨rfl, by omega⟩
  | k + 1, h => by
    have hk : k < L.length := by omega
    have hg : L.getD k default = L[k] := by rw [List.getD_eq_getElem?_getD, List.getElem?_eq_getElem hk]; rfl
    have ih := bestTo_spec q L k (by omega)
    unfold bestTo
    rw [hg]
    rcases ih with ⟨h1, h2⟩ | ⟨a, ha, h1, h2, h3, h4⟩
    · rw [h1]
      cases hq : q L[k] with
      | false =>
        left
        refine ⟨by simp, fun j hj hjk => ?_⟩
        by_cases e : j = k
        · subst e; exact hq
        · exact h2 j hj (by omega)
      | true =>
        right
        refine ⟨k, hk, by simp, by omega, hq, fun j hj hjk hqj => ?_⟩
        by_cases e : j = k
        · subst e; exact .inr ⟨rfl, Nat.le_refl _⟩
        · rw [h2 j hj (by omega)] at hqj; cases hqj
    · have hga : L.getD a default = L[a] := by rw [List.getD_eq_getElem?_getD, List.getElem?_eq_getElem ha]; rfl
      rw [h1, Int.toNat_natCast, hga]
      right
      by_cases hc : q L[k] = true ∧ L[a].n < L[k].n
      · refine ⟨k, hk, by simp [hc.1, hc.2], by omega, hc.1, fun j hj hjk hqj => ?_⟩
        by_cases e : j = k
        · subst e; exact .inr ⟨rfl, Nat.le_refl _⟩
        · have := h4 j hj (by omega) hqj; omega
      · refine ⟨a, ha, ?_, by omega, h3, fun j hj hjk hqj => ?_⟩
        · rw [if_neg]
          simp only [Bool.and_eq_true, Bool.or_eq_true, decide_eq_true_eq]
          rintro ⟨x, y | y⟩
          · omega
          · exact hc ⟨x, y⟩
        · by_cases e : j = k
          · subst e
            have : ¬ L[a].n < L[j].n := fun x => hc ⟨hqj, x⟩
            omega
          · exact h4 j hj (by omega) hqj
theorem bestTo_wins (L : List Bd) (P : Int) : (bestTo (cntB P) L L.length = -1 ∧ wins L P = none) ∨ (∃ a : Nat, a < L.length ∧ bestTo (cntB P) L L.length = a ∧ wins L P = some a) := by
  rcases bestTo_spec (cntB P) L L.length (Nat.le_refl _) with ⟨h1, h2⟩ | ⟨a, ha, h1, _, h3, h4⟩
  · left
    refine ⟨h1, wins_none.2 fun x hx => ?_⟩
    obtain ⟨j, hj, rfl⟩ := List.getElem_of_mem hx
    exact h2 j hj hj
  · exact .inr ⟨a, ha, h1, wins_some.2 ⟨ha, h3, fun j hj hc => h4 j hj hj hc⟩⟩
end Go.Proofs.YtjgkjenbgadacaaDoor

namespace Go.Proofs.YtjgkjenbgadacaaDoor
open Go.RowKit Go.Ab
attribute [local irreducible] AWP Go.Ab.Sub Means MeansH CallK CallG CallT CallGT CallU
theorem key_m (n : Int) : Means true Tryd.prog 52 [ii n] (bb (keyB n)) := by
  refine means_fn true 9 [.tmp 2] Tryd.func52 rfl rfl rfl (by simp) (by decide) rfl fun X hX => ?_
  (repeat (first | refine awp_seq ?_ | refine awp_block ?_ | ((first | refine awp_runG [0, 2] hX ?_ | refine awp_drawnG [0, 2] hX mixed ?_ | refine awp_ret ?_ | refine awp_skip ?_ | refine awp_exit ?_); (simp [go_sem]; try (refine ⟨by kernel_rfl, ?_⟩)))))
  simp [keyB]
theorem coins_m (n : Int) : Means true Tryd.prog 35 [ii n] (bb (coinB n)) := by
  refine means_fn true 9 [.tmp 2] Tryd.func35 rfl rfl rfl (by simp) (by decide) rfl fun X hX => ?_
  (repeat (first | refine awp_seq ?_ | refine awp_block ?_ | ((first | refine awp_runG [0, 2] hX ?_ | refine awp_drawnG [0, 2] hX mixed ?_ | refine awp_ret ?_ | refine awp_skip ?_ | refine awp_exit ?_); (simp [go_sem]; try (refine ⟨by kernel_rfl, ?_⟩)))))
  simp [coinB]
set_option maxHeartbeats 4000000 in
theorem right_m (b : Bd) : Means true Tryd.prog 31 [ob b] (bb (okB b)) := by
  have c1 := key_m b.w
  have c2 := coins_m b.n
  obtain ⟨m, w, n, o⟩ := b
  simp only [okB]
  refine means_fn true 35 [.tmp 2] Tryd.func31 rfl rfl rfl (by simp) (by decide) rfl fun X hX => ?_
  (repeat (first | refine awp_seq ?_ | refine awp_block ?_ | ((first | refine awp_runG [0, 1, 2] hX ?_ | refine awp_drawnG [0, 1, 2] hX mixed ?_ | refine awp_ret ?_ | refine awp_skip ?_ | refine awp_exit ?_); (simp [go_sem]; try (refine ⟨by kernel_rfl, ?_⟩)))))
  first | refine callG_intro (fun hg => c1) rfl (by simp [go_sem]) rfl ?_ | refine callGT_intro (fun hg => c1) rfl (by simp [go_sem]) rfl ?_
  try (simp [go_sem]; try (refine ⟨by kernel_rfl, ?_⟩))
  first | refine callG_intro (fun hg => c2) rfl (by simp [go_sem]) rfl ?_ | refine callGT_intro (fun hg => c2) rfl (by simp [go_sem]) rfl ?_
  try (simp [go_sem]; try (refine ⟨by kernel_rfl, ?_⟩))
  refine ⟨by intros; cases o <;> simp_all, by intros; cases o <;> simp_all, by intros; cases o <;> simp_all, ?_⟩
  (repeat (first | refine awp_seq ?_ | refine awp_block ?_ | ((first | refine awp_runG [0, 1, 2] hX ?_ | refine awp_drawnG [0, 1, 2] hX mixed ?_ | refine awp_ret ?_ | refine awp_skip ?_ | refine awp_exit ?_); (simp [go_sem]; try (refine ⟨by kernel_rfl, ?_⟩)))))
  cases o <;> simp
theorem indexF_m (f : FuncId) (E k : Nat) (c : AV) (p : Bd → Bool) (L : List Bd) (hl : L.length ≤ 9223372036854775807) (hz : c.flat.all AV.zone = true)
    (hf : ∀ b ∈ L, MeansH Tryd.prog f [.row ⟨E, k, [c]⟩] [ob b, .el 0 k 0 0] (bb (p b)) [.row ⟨E, k, [c]⟩]) (hcall : callable Tryd.prog f = true) :
    MeansH Tryd.prog 36 [.row ⟨E, k, [c]⟩] [bl L, .fn f [] [.el 0 k 0 0]] (ii (if L.findIdx p < L.length then (L.findIdx p : Int) else -1)) [.row ⟨E, k, [c]⟩] := by
  have hz2 : ∀ x ∈ c.flat, x.zone = true := by simpa using hz
  refine meansH_fn 1 19 [.tmp 4] Tryd.func36 rfl rfl rfl (by simp) (by decide) rfl fun X hX => ?_
  (repeat (first | refine awp_seq ?_ | refine awp_block ?_ | ((first | refine awp_runG [0, 1, 4, 5, 7, 8, 9, 16, 1000000] hX ?_ | refine awp_drawnG [0, 1, 4, 5, 7, 8, 9, 16, 1000000] hX mixed ?_ | refine awp_skip ?_ | refine awp_exit ?_); (simp [go_sem]; try (refine ⟨by kernel_rfl, ?_⟩)))))
  refine awp_loop (fun n : Nat => ⟨mkE [(0, bl L), (1, .fn f [] [.el 0 k 0 0]), (7, ii L.length), (8, ii n), (1000000, .ow 0)], [.row ⟨E, k, [c]⟩]⟩) (fun n => n ≤ L.findIdx p ∧ n ≤ L.length) (fun n => L.length - n) 0 ?_ ?_ ?_
  · refine sub_of _ [.old 0 ⟨E, k, [c]⟩] (by simp [go_sem, hz, hz2]) ?_
    simp [go_sem, hz, hz2]
  · omega
  · rintro n ⟨hn, hn2⟩
    (repeat (first | refine awp_seq ?_ | refine awp_block ?_ | ((first | refine awp_runG [0, 1, 4, 5, 7, 8, 9, 16, 1000000] hX ?_ | refine awp_drawnG [0, 1, 4, 5, 7, 8, 9, 16, 1000000] hX mixed ?_ | refine awp_skip ?_ | refine awp_exit ?_); (simp [go_sem]; try (refine ⟨by kernel_rfl, ?_⟩)))))
    refine awp_cond (b := decide (n < L.length)) (by simp [go_sem]) (fun hc => ?_) (fun hc => ?_)
    · simp at hc
      have hq := nth_ob hc
      (repeat (first | refine awp_seq ?_ | refine awp_block ?_ | ((first | refine awp_runG [0, 1, 4, 5, 7, 8, 9, 16, 1000000] hX ?_ | refine awp_drawnG [0, 1, 4, 5, 7, 8, 9, 16, 1000000] hX mixed ?_ | refine awp_skip ?_ | refine awp_exit ?_); (simp [go_sem, hc, hq, hcall]; try (refine ⟨by kernel_rfl, ?_⟩)))))
      refine callH_intro [0] (hf L[n] (List.getElem_mem hc)) (by simp [go_sem, hz, hz2]) ?_
      try (simp [go_sem, hz]; try (refine ⟨by kernel_rfl, ?_⟩))
      refine awp_cond (b := p L[n]) (by simp [go_sem]) (fun hd => ?_) (fun hd => ?_)
      · have e : L.findIdx p = n := by
          have h1 : ¬ n < L.findIdx p := fun h => by have := List.not_of_lt_findIdx h; rw [hd] at this; simp at this
          omega
        (repeat (first | refine awp_seq ?_ | refine awp_block ?_ | ((first | refine awp_runG [0, 1, 4, 5, 7, 8, 9, 16, 1000000] hX ?_ | refine awp_drawnG [0, 1, 4, 5, 7, 8, 9, 16, 1000000] hX mixed ?_ | refine awp_skip ?_ | refine awp_exit ?_); (simp [go_sem]; try (refine ⟨by kernel_rfl, ?_⟩)))))
        refine awp_ret ?_; (try simp only [thenQ, blkQ, loopQ]); refine retH_ret [(4, ii n), (1000000, .ow 0)] [.old 0 ⟨E, k, [c]⟩] ?_
        simp [go_sem, e, hc, hz, hz2]
        exact ⟨L[n], List.getElem_mem hc, hd⟩
      · have e : n + 1 ≤ L.findIdx p := by
          by_cases h : L.findIdx p = n
          · have h2 : L.findIdx p < L.length := by omega
            have := List.findIdx_getElem (p := p) (w := h2)
            simp only [h] at this
            rw [hd] at this; cases this
          · omega
        have wk := w64 (x := (n : Int) + 1) (by omega) (by omega)
        (repeat (first | refine awp_seq ?_ | refine awp_block ?_ | ((first | refine awp_runG [0, 1, 4, 5, 7, 8, 9, 16, 1000000] hX ?_ | refine awp_drawnG [0, 1, 4, 5, 7, 8, 9, 16, 1000000] hX mixed ?_ | refine awp_skip ?_ | refine awp_exit ?_); (simp [go_sem, wk]; try (refine ⟨by kernel_rfl, ?_⟩)))))
        refine ⟨n + 1, ⟨e, by omega⟩, by omega, ?_⟩
        refine sub_of _ [.old 0 ⟨E, k, [c]⟩] (by simp [go_sem, hz, hz2]) ?_
        simp [go_sem, hz, hz2]
    · simp at hc
      have e : ¬ L.findIdx p < L.length := by omega
      (repeat (first | refine awp_seq ?_ | refine awp_block ?_ | ((first | refine awp_runG [0, 1, 4, 5, 7, 8, 9, 16, 1000000] hX ?_ | refine awp_drawnG [0, 1, 4, 5, 7, 8, 9, 16, 1000000] hX mixed ?_ | refine awp_skip ?_ | refine awp_exit ?_); (simp [go_sem]; try (refine ⟨by kernel_rfl, ?_⟩)))))
      refine awp_ret ?_; (try simp only [thenQ, blkQ, loopQ]); refine retH_ret [(4, ii (-1)), (1000000, .ow 0)] [.old 0 ⟨E, k, [c]⟩] ?_
      simp [go_sem, e, hz, hz2]
      simpa using e
end Go.Proofs.YtjgkjenbgadacaaDoor

namespace Go.Proofs.YtjgkjenbgadacaaDoor
open Go.RowKit Go.Ab
attribute [local irreducible] AWP Go.Ab.Sub Means MeansH CallK CallG CallT CallGT CallU
abbrev boxB (b : Bd) : Cell := .row ⟨24, 4, [ob b]⟩
def clashP (b x : Bd) : Bool := decide (x.m = b.m) || decide (x.w = b.w)
set_option maxHeartbeats 4000000 in
theorem clash1_m (b x : Bd) : MeansH Tryd.prog 54 [boxB b] [ob x, .el 0 4 0 0] (bb (clashP b x)) [boxB b] := by
  refine meansH_fn 1 16 [.tmp 3] Tryd.func54 rfl rfl rfl (by simp) (by decide) rfl fun X hX => ?_
  (repeat (first | refine awp_seq ?_ | refine awp_block ?_ | ((first | refine awp_runG [0, 1, 2, 3, 1000000] hX ?_ | refine awp_drawnG [0, 1, 2, 3, 1000000] hX mixed ?_ | refine awp_skip ?_ | refine awp_exit ?_); (simp [go_sem]; try (refine ⟨by kernel_rfl, ?_⟩)))))
  refine awp_ret ?_; (try simp only [thenQ, blkQ, loopQ]); refine retH_ret [(3, bb (clashP b x)), (1000000, .ow 0)] [.old 0 ⟨24, 4, [ob b]⟩] ?_
  simp [go_sem, clashP]
theorem findIdx_any {p : Bd → Bool} (L : List Bd) : decide (L.findIdx p < L.length) = L.any p := by
  rw [Bool.eq_iff_iff]
  simp [List.findIdx_lt_length]
set_option maxHeartbeats 4000000 in
theorem containsF_m (b : Bd) (L : List Bd) (hl : L.length ≤ 9223372036854775807) : MeansH Tryd.prog 53 [boxB b] [bl L, .fn 54 [] [.el 0 4 0 0]] (bb (clashB L b)) [boxB b] := by
  have h := indexF_m 54 24 4 (ob b) (clashP b) L hl (by simp [go_sem]) (fun x _ => clash1_m b x) (by kernel_rfl)
  have e : clashB L b = decide (L.findIdx (clashP b) < L.length) := by rw [findIdx_any]; rfl
  rw [e]
  generalize L.findIdx (clashP b) = q at *
  refine meansH_fn 1 9 [.tmp 4] Tryd.func53 rfl rfl rfl (by simp) (by decide) rfl fun X hX => ?_
  (repeat (first | refine awp_seq ?_ | refine awp_block ?_ | ((first | refine awp_runG [0, 1, 4, 1000000] hX ?_ | refine awp_drawnG [0, 1, 4, 1000000] hX mixed ?_ | refine awp_skip ?_ | refine awp_exit ?_); (simp [go_sem]; try (refine ⟨by kernel_rfl, ?_⟩)))))
  first | refine callH_intro [0] (h) (by simp [go_sem]) ?_ | refine callTQ_intro [0] (h) (by simp [go_sem]) ?_ | refine callTE_intro [0] (h) (by simp [go_sem]) ?_
  try (simp [go_sem]; try (refine ⟨by kernel_rfl, ?_⟩))
  by_cases hq : q < L.length
  · (repeat (first | refine awp_seq ?_ | refine awp_block ?_ | ((first | refine awp_runG [0, 1, 4, 1000000] hX ?_ | refine awp_drawnG [0, 1, 4, 1000000] hX mixed ?_ | refine awp_skip ?_ | refine awp_exit ?_); (simp [go_sem, hq]; try (refine ⟨by kernel_rfl, ?_⟩)))))
    refine awp_ret ?_; (try simp only [thenQ, blkQ, loopQ]); refine retH_ret [(4, bb true), (1000000, .ow 0)] [.old 0 ⟨24, 4, [ob b]⟩] ?_
    simp [go_sem, hq]
  · (repeat (first | refine awp_seq ?_ | refine awp_block ?_ | ((first | refine awp_runG [0, 1, 4, 1000000] hX ?_ | refine awp_drawnG [0, 1, 4, 1000000] hX mixed ?_ | refine awp_skip ?_ | refine awp_exit ?_); (simp [go_sem, hq]; try (refine ⟨by kernel_rfl, ?_⟩)))))
    refine awp_ret ?_; (try simp only [thenQ, blkQ, loopQ]); refine retH_ret [(4, bb false), (1000000, .ow 0)] [.old 0 ⟨24, 4, [ob b]⟩] ?_
    simp [go_sem, hq]
theorem clash_m (b : Bd) (L : List Bd) (hl : L.length ≤ 9223372036854775807) : Means true Tryd.prog 32 [bl L, ob b] (bb (clashB L b)) := by
  refine means_fn true 8 [.tmp 4] Tryd.func32 rfl rfl rfl (by simp) (by decide) rfl fun X hX => ?_
  (repeat (first | refine awp_seq ?_ | refine awp_block ?_ | ((first | refine awp_runG [0, 1, 3, 4] hX ?_ | refine awp_drawnG [0, 1, 3, 4] hX mixed ?_ | refine awp_ret ?_ | refine awp_skip ?_ | refine awp_exit ?_); (simp [go_sem]; try (refine ⟨by kernel_rfl, ?_⟩)))))
  first | refine callH_intro [0] (containsF_m b L hl) (by simp [go_sem]) ?_ | refine callTQ_intro [0] (containsF_m b L hl) (by simp [go_sem]) ?_ | refine callTE_intro [0] (containsF_m b L hl) (by simp [go_sem]) ?_
  try (simp [go_sem]; try (refine ⟨by kernel_rfl, ?_⟩))
  (repeat (first | refine awp_seq ?_ | refine awp_block ?_ | ((first | refine awp_runG [0, 1, 3, 4] hX ?_ | refine awp_drawnG [0, 1, 3, 4] hX mixed ?_ | refine awp_ret ?_ | refine awp_skip ?_ | refine awp_exit ?_); (simp [go_sem]; try (refine ⟨by kernel_rfl, ?_⟩)))))
end Go.Proofs.YtjgkjenbgadacaaDoor

namespace Go.Proofs.YtjgkjenbgadacaaDoor
open Go.RowKit Go.Ab
attribute [local irreducible] AWP Go.Ab.Sub Means MeansH CallK CallG CallT CallGT CallU
def seenE (l : List Int) : List (AV × AV) := l.map fun x => (ii x, bb true)
@[go_sem] theorem seenE_nil : seenE [] = [] := rfl
@[go_sem] theorem keyEq_ii (a b : Int) : keyEq Tryd.prog 3 (ii a) (ii b) = some (decide (a = b)) := by
  simp only [keyEq, tk3, eqV, if_true]
  rw [beqI]
theorem look_seen (x : Int) (l : List Int) : findA Tryd.prog 3 (ii x) (seenE l) = some (if x ∈ l then some (bb true) else none) := by
  induction l with
  | nil => rfl
  | cons v l ih =>
    simp only [seenE] at ih
    simp only [seenE, List.map_cons, findA, keyEq_ii]
    rw [ih]
    by_cases h : x = v
    · simp [h]
    · simp [h]
theorem lookA_seen (x : Int) (l : List Int) : lookA Tryd.prog 3 4 (ii x) (seenE l) false = some (bb (decide (x ∈ l))) := by
  unfold lookA
  rw [look_seen, tk4]
  by_cases h : x ∈ l <;> simp only [h, if_true, if_false, foundA] <;> simp
theorem updA_seen (x : Int) : ∀ (l : List Int), x ∉ l → updA Tryd.prog 3 (ii x) (bb true) (seenE l) = some (seenE (l ++ [x]))
  | [], _ => rfl
  | v :: l, h => by
    simp only [List.mem_cons, not_or] at h
    have := updA_seen x l h.2
    simp only [seenE, List.map_cons, updA, keyEq_ii, h.1, decide_false, List.cons_append]
    simp only [seenE] at this
    rw [this]; rfl
set_option maxHeartbeats 4000000 in
set_option maxRecDepth 20000 in
theorem different_m (M : List Int) (hl : M.length ≤ 9223372036854775807) : Means true Tryd.prog 38 [il M] (bb (okMb M)) := by
  refine means_fn true 32 [.tmp 2] Tryd.func38 rfl rfl rfl (by simp) (by decide) rfl fun X hX => ?_
  (repeat (first | refine awp_seq ?_ | refine awp_block ?_ | ((first | refine awp_runG [0, 2, 3, 5, 7, 8, 9, 10, 20] hX ?_ | refine awp_drawnG [0, 2, 3, 5, 7, 8, 9, 10, 20] hX mixed ?_ | refine awp_ret ?_ | refine awp_skip ?_ | refine awp_exit ?_); (simp [go_sem]; try (refine ⟨by kernel_rfl, ?_⟩)))))
  refine awp_loop (fun k : Nat => ⟨mkE [(0, il M), (3, .ow 0), (7, il M), (8, ii M.length), (9, ii k)], [.map ⟨3, 4, seenE (M.take k)⟩]⟩) (fun k => k ≤ M.length ∧ (∀ x ∈ M.take k, 0 ≤ x ∧ x < 200) ∧ (M.take k).Nodup) (fun k => M.length - k) 0 ?_ ?_ ?_
  · refine sub_of _ [.oldM 0 ⟨3, 4, []⟩] (by simp [go_sem]) ?_
    simp [go_sem]
  · simp
  · rintro k ⟨hk, h1, h2⟩
    (repeat (first | refine awp_seq ?_ | refine awp_block ?_ | ((first | refine awp_runG [0, 2, 3, 5, 7, 8, 9, 10, 20] hX ?_ | refine awp_drawnG [0, 2, 3, 5, 7, 8, 9, 10, 20] hX mixed ?_ | refine awp_ret ?_ | refine awp_skip ?_ | refine awp_exit ?_); (simp [go_sem]; try (refine ⟨by kernel_rfl, ?_⟩)))))
    refine awp_cond (b := decide (k < M.length)) (by simp [go_sem]) (fun hc => ?_) (fun hc => ?_)
    · simp at hc
      have c1 := key_m M[k]
      have hq := nth_ii hc
      have hlo := lookA_seen M[k] (M.take k)
      have hup := updA_seen M[k] (M.take k)
      have htk : M.take (k + 1) = M.take k ++ [M[k]] := List.take_succ_eq_append_getElem hc
      have hnd : M[k] ∈ M.take k → ¬ M.Nodup := fun hm hn => by
        rw [← List.take_append_drop k M, List.nodup_append] at hn
        exact hn.2.2 _ hm M[k] (by rw [List.drop_eq_getElem_cons hc]; exact List.mem_cons_self) rfl
      have hkm : M[k] ∈ M := List.getElem_mem hc
      have wk := w64 (x := (k : Int) + 1) (by omega) (by omega)
      generalize M[k] = x at *
      (repeat (first | refine awp_seq ?_ | refine awp_block ?_ | ((first | refine awp_runG [0, 2, 3, 5, 7, 8, 9, 10, 20] hX ?_ | refine awp_drawnG [0, 2, 3, 5, 7, 8, 9, 10, 20] hX mixed ?_ | refine awp_ret ?_ | refine awp_skip ?_ | refine awp_exit ?_); (simp [go_sem, hc, hq]; try (refine ⟨by kernel_rfl, ?_⟩)))))
      first | refine callK_intro (c1) rfl (by simp [go_sem]) rfl ?_ | refine callT_intro (c1) rfl (by simp [go_sem]) rfl ?_
      try (simp [go_sem]; try (refine ⟨by kernel_rfl, ?_⟩))
      (repeat (first | refine awp_seq ?_ | refine awp_block ?_ | ((first | refine awp_runG [0, 2, 3, 5, 7, 8, 9, 10, 20] hX ?_ | refine awp_drawnG [0, 2, 3, 5, 7, 8, 9, 10, 20] hX mixed ?_ | refine awp_ret ?_ | refine awp_skip ?_ | refine awp_exit ?_); (simp [go_sem, hlo]; try (refine ⟨by kernel_rfl, ?_⟩)))))
      try (simp [go_sem, hlo]; try (refine ⟨by kernel_rfl, ?_⟩))
      refine awp_cond (b := !keyB x || decide (x ∈ M.take k)) (by simp [go_sem]) (fun hd => ?_) (fun hd => ?_)
      · have e : okMb M = false := by
          rw [← Bool.not_eq_true, okMb_iff]
          rintro ⟨q1, q2, _⟩
          simp only [Bool.or_eq_true, Bool.not_eq_true', decide_eq_true_eq] at hd
          rcases hd with hd | hd
          · have := q1 x hkm
            simp [keyB] at hd
            omega
          · exact hnd hd q2
        (repeat (first | refine awp_seq ?_ | refine awp_block ?_ | ((first | refine awp_runG [0, 2, 3, 5, 7, 8, 9, 10, 20] hX ?_ | refine awp_drawnG [0, 2, 3, 5, 7, 8, 9, 10, 20] hX mixed ?_ | refine awp_ret ?_ | refine awp_skip ?_ | refine awp_exit ?_); (simp [go_sem, e]; try (refine ⟨by kernel_rfl, ?_⟩)))))
      · simp only [Bool.or_eq_false_iff, Bool.not_eq_false', decide_eq_false_iff_not] at hd
        have hu := hup hd.2
        (repeat (first | refine awp_seq ?_ | refine awp_block ?_ | ((first | refine awp_runG [0, 2, 3, 5, 7, 8, 9, 10, 20] hX ?_ | refine awp_drawnG [0, 2, 3, 5, 7, 8, 9, 10, 20] hX mixed ?_ | refine awp_ret ?_ | refine awp_skip ?_ | refine awp_exit ?_); (simp [go_sem, hu, wk]; try (refine ⟨by kernel_rfl, ?_⟩)))))
        try (repeat (first | refine awp_seq ?_ | refine awp_block ?_ | ((first | refine awp_runG [0, 2, 3, 5, 7, 8, 9, 10, 20] hX ?_ | refine awp_drawnG [0, 2, 3, 5, 7, 8, 9, 10, 20] hX mixed ?_ | refine awp_ret ?_ | refine awp_skip ?_ | refine awp_exit ?_); (simp [go_sem, wk]; try (refine ⟨by kernel_rfl, ?_⟩)))))
        refine ⟨k + 1, ⟨by omega, ?_, ?_⟩, by omega, ?_⟩
        · rw [htk]
          intro y hy
          rcases List.mem_append.1 hy with hy | hy
          · exact h1 y hy
          · simp at hy
            have := hd.1
            simp [keyB] at this
            rw [hy]; exact this
        · rw [htk, List.nodup_append]
          exact ⟨h2, by simp, fun a ha b hb e => by simp at hb; subst hb; subst e; exact hd.2 ha⟩
        · rw [htk]
          refine sub_of _ [.oldM 0 ⟨3, 4, seenE (M.take k ++ [x])⟩] (by simp [go_sem]) ?_
          simp [go_sem]
    · have hkl : k = M.length := by simp at hc; omega
      rw [List.take_of_length_le (by omega)] at h1 h2
      have e : okMb M = (decide (0 < M.length) && decide (M.length ≤ 60)) := by
        have hall : M.all keyB = true := List.all_eq_true.2 fun x hx => by have := h1 x hx; simp [keyB]; omega
        simp [okMb, hall, h2]
      (repeat (first | refine awp_seq ?_ | refine awp_block ?_ | ((first | refine awp_runG [0, 2, 3, 5, 7, 8, 9, 10, 20] hX ?_ | refine awp_drawnG [0, 2, 3, 5, 7, 8, 9, 10, 20] hX mixed ?_ | refine awp_ret ?_ | refine awp_skip ?_ | refine awp_exit ?_); (simp [go_sem]; try (refine ⟨by kernel_rfl, ?_⟩)))))
      rw [e]
      congr 1
      simp
      try omega
theorem clash_take {L : List Bd} {k : Nat} (b : Bd) : clashB (L.take k) b = (decide (b.m ∈ (L.map Bd.m).take k) || decide (b.w ∈ (L.map Bd.w).take k)) := by
  rw [Bool.eq_iff_iff, clash_iff, List.map_take, List.map_take]
  simp
set_option maxHeartbeats 8000000 in
set_option maxRecDepth 20000 in
theorem rightL_m (L : List Bd) (hl : L.length ≤ 9223372036854775807) : Means true Tryd.prog 19 [bl L] (bb (okL L)) := by
  have hA : (L.map Bd.m).length = L.length := by simp
  have hB : (L.map Bd.w).length = L.length := by simp
  have hct := fun k (b : Bd) => clash_take (L := L) (k := k) b
  have hAk : ∀ k (hk : k < L.length), (L.map Bd.m).take (k + 1) = (L.map Bd.m).take k ++ [L[k].m] := fun k hk => by rw [List.take_succ_eq_append_getElem (by omega)]; simp
  have hBk : ∀ k (hk : k < L.length), (L.map Bd.w).take (k + 1) = (L.map Bd.w).take k ++ [L[k].w] := fun k hk => by rw [List.take_succ_eq_append_getElem (by omega)]; simp
  generalize L.map Bd.m = A at *
  generalize L.map Bd.w = B at *
  refine means_fn true 37 [.tmp 2] Tryd.func19 rfl rfl rfl (by simp) (by decide) rfl fun X hX => ?_
  (repeat (first | refine awp_seq ?_ | refine awp_block ?_ | ((first | refine awp_runG [0, 2, 3, 4, 6, 9, 10, 11, 12, 29] hX ?_ | refine awp_drawnG [0, 2, 3, 4, 6, 9, 10, 11, 12, 29] hX mixed ?_ | refine awp_ret ?_ | refine awp_skip ?_ | refine awp_exit ?_); (simp [go_sem]; try (refine ⟨by kernel_rfl, ?_⟩)))))
  refine awp_loop (fun k : Nat => ⟨mkE [(0, bl L), (3, .ow 0), (4, .ow 1), (9, bl L), (10, ii L.length), (11, ii k)], [.map ⟨3, 4, seenE (A.take k)⟩, .map ⟨3, 4, seenE (B.take k)⟩]⟩) (fun k => k ≤ L.length ∧ okL (L.take k) = true) (fun k => L.length - k) 0 ?_ ?_ ?_
  · refine sub_of _ [.oldM 0 ⟨3, 4, []⟩, .oldM 1 ⟨3, 4, []⟩] (by simp [go_sem]) ?_
    simp [go_sem]
  · simp [okL_nil]
  · rintro k ⟨hk, h1⟩
    (repeat (first | refine awp_seq ?_ | refine awp_block ?_ | ((first | refine awp_runG [0, 2, 3, 4, 6, 9, 10, 11, 12, 29] hX ?_ | refine awp_drawnG [0, 2, 3, 4, 6, 9, 10, 11, 12, 29] hX mixed ?_ | refine awp_ret ?_ | refine awp_skip ?_ | refine awp_exit ?_); (simp [go_sem]; try (refine ⟨by kernel_rfl, ?_⟩)))))
    refine awp_cond (b := decide (k < L.length)) (by simp [go_sem]) (fun hc => ?_) (fun hc => ?_)
    · simp at hc
      have c1 := right_m L[k]
      have hq := nth_ob hc
      have hloA := lookA_seen L[k].m (A.take k)
      have hupA := updA_seen L[k].m (A.take k)
      have hloB := lookA_seen L[k].w (B.take k)
      have hupB := updA_seen L[k].w (B.take k)
      have hot := okL_take hc
      have hck := hct k L[k]
      have hAs := hAk k hc
      have hBs := hBk k hc
      have hnot := @okL_not L (k + 1)
      have wk := w64 (x := (k : Int) + 1) (by omega) (by omega)
      generalize L[k] = x at *
      (repeat (first | refine awp_seq ?_ | refine awp_block ?_ | ((first | refine awp_runG [0, 2, 3, 4, 6, 9, 10, 11, 12, 29] hX ?_ | refine awp_drawnG [0, 2, 3, 4, 6, 9, 10, 11, 12, 29] hX mixed ?_ | refine awp_ret ?_ | refine awp_skip ?_ | refine awp_exit ?_); (simp [go_sem, hc, hq]; try (refine ⟨by kernel_rfl, ?_⟩)))))
      first | refine callK_intro (c1) rfl (by simp [go_sem]) rfl ?_ | refine callT_intro (c1) rfl (by simp [go_sem]) rfl ?_
      try (simp [go_sem]; try (refine ⟨by kernel_rfl, ?_⟩))
      (repeat (first | refine awp_seq ?_ | refine awp_block ?_ | ((first | refine awp_runG [0, 2, 3, 4, 6, 9, 10, 11, 12, 29] hX ?_ | refine awp_drawnG [0, 2, 3, 4, 6, 9, 10, 11, 12, 29] hX mixed ?_ | refine awp_ret ?_ | refine awp_skip ?_ | refine awp_exit ?_); (simp [go_sem, hloA, hloB]; try (refine ⟨by kernel_rfl, ?_⟩)))))
      try (simp [go_sem, hloA, hloB]; try (refine ⟨by kernel_rfl, ?_⟩))
      refine awp_cond (b := !okB x || (decide (x.m ∈ A.take k) || decide (x.w ∈ B.take k))) (by simp [go_sem, Bool.or_assoc]) (fun hd => ?_) (fun hd => ?_)
      · have e : okL L = false := by
          refine hnot ?_
          rw [← Bool.not_eq_true, hot, hck]
          rintro ⟨_, q2, q3⟩
          rw [q2, q3] at hd
          simp at hd
        (repeat (first | refine awp_seq ?_ | refine awp_block ?_ | ((first | refine awp_runG [0, 2, 3, 4, 6, 9, 10, 11, 12, 29] hX ?_ | refine awp_drawnG [0, 2, 3, 4, 6, 9, 10, 11, 12, 29] hX mixed ?_ | refine awp_ret ?_ | refine awp_skip ?_ | refine awp_exit ?_); (simp [go_sem, e]; try (refine ⟨by kernel_rfl, ?_⟩)))))
      · simp only [Bool.or_eq_false_iff, Bool.not_eq_false', decide_eq_false_iff_not] at hd
        have huA := hupA hd.2.1
        have huB := hupB hd.2.2
        (repeat (first | refine awp_seq ?_ | refine awp_block ?_ | ((first | refine awp_runG [0, 2, 3, 4, 6, 9, 10, 11, 12, 29] hX ?_ | refine awp_drawnG [0, 2, 3, 4, 6, 9, 10, 11, 12, 29] hX mixed ?_ | refine awp_ret ?_ | refine awp_skip ?_ | refine awp_exit ?_); (simp [go_sem, huA, huB, wk]; try (refine ⟨by kernel_rfl, ?_⟩)))))
        try (repeat (first | refine awp_seq ?_ | refine awp_block ?_ | ((first | refine awp_runG [0, 2, 3, 4, 6, 9, 10, 11, 12, 29] hX ?_ | refine awp_drawnG [0, 2, 3, 4, 6, 9, 10, 11, 12, 29] hX mixed ?_ | refine awp_ret ?_ | refine awp_skip ?_ | refine awp_exit ?_); (simp [go_sem, huA, huB, wk]; try (refine ⟨by kernel_rfl, ?_⟩)))))
        refine ⟨k + 1, ⟨by omega, hot.2 ⟨h1, hd.1, by rw [hck]; simp [hd.2.1, hd.2.2]⟩⟩, by omega, ?_⟩
        rw [hAs, hBs]
        refine sub_of _ [.oldM 0 ⟨3, 4, seenE (A.take k ++ [x.m])⟩, .oldM 1 ⟨3, 4, seenE (B.take k ++ [x.w])⟩] (by simp [go_sem]) ?_
        simp [go_sem]
    · have hkl : k = L.length := by simp at hc; omega
      rw [List.take_of_length_le (by omega)] at h1
      (repeat (first | refine awp_seq ?_ | refine awp_block ?_ | ((first | refine awp_runG [0, 2, 3, 4, 6, 9, 10, 11, 12, 29] hX ?_ | refine awp_drawnG [0, 2, 3, 4, 6, 9, 10, 11, 12, 29] hX mixed ?_ | refine awp_ret ?_ | refine awp_skip ?_ | refine awp_exit ?_); (simp [go_sem]; try (refine ⟨by kernel_rfl, ?_⟩)))))
      rw [h1]
end Go.Proofs.YtjgkjenbgadacaaDoor

namespace Go.Proofs.YtjgkjenbgadacaaDoor
open Go.RowKit Go.Ab
attribute [local irreducible] AWP Go.Ab.Sub Means MeansH CallK CallG CallT CallGT CallU
theorem zone_ob (L : List Bd) : zoneEs (L.map ob) = true := by
  unfold zoneEs
  rw [List.all_eq_true]
  intro a ha
  obtain ⟨b, _, rfl⟩ := List.mem_map.1 ha
  rfl
abbrev rowB (L : List Bd) : Cell := .row ⟨24, 4, L.map ob⟩
theorem clone_h (L : List Bd) (hl : L.length ≤ 100000) : MeansH Tryd.prog 33 [] [bl L] (.ow 0) [rowB L] := by
  have hz := zone_ob L
  refine meansH_fn 0 8 [.tmp 2] Tryd.func33 rfl rfl rfl (by simp) (by decide) rfl fun X hX => ?_
  (repeat (first | refine awp_seq ?_ | refine awp_block ?_ | ((first | refine awp_runG [0, 2, 4] hX ?_ | refine awp_drawnG [0, 2, 4] hX mixed ?_ | refine awp_skip ?_ | refine awp_exit ?_); (simp [go_sem]; try (refine ⟨by kernel_rfl, ?_⟩)))))
  refine ⟨?_, fun hL => ?_⟩
  · refine awp_cond (b := false) (by simp [go_sem]) (fun hb => by cases hb) (fun _ => ?_)
    (repeat (first | refine awp_seq ?_ | refine awp_block ?_ | ((first | refine awp_runG [0, 2, 4] hX ?_ | refine awp_drawnG [0, 2, 4] hX mixed ?_ | refine awp_skip ?_ | refine awp_exit ?_); (simp [go_sem]; try (refine ⟨by kernel_rfl, ?_⟩)))))
    (repeat refine And.intro (by first | omega | (unfold maxLen; omega) | kernel_rfl | (refine ⟨by first | omega | (unfold maxLen; omega), by first | omega | (unfold maxLen; omega)⟩) | grind) ?_)
    (repeat (first | refine awp_seq ?_ | refine awp_block ?_ | ((first | refine awp_runG [0, 2, 4] hX ?_ | refine awp_drawnG [0, 2, 4] hX mixed ?_ | refine awp_skip ?_ | refine awp_exit ?_); (simp [go_sem]; try (refine ⟨by kernel_rfl, ?_⟩)))))
    refine awp_ret ?_; (try simp only [thenQ, blkQ, loopQ]); refine retH_ret [(2, .ow 0)] [.old 1 ⟨24, 4, L.map ob⟩] ?_
    simp [go_sem]
  · subst hL
    refine awp_cond (b := true) (by simp [go_sem]) (fun _ => ?_) (fun hb => by cases hb)
    (repeat (first | refine awp_seq ?_ | refine awp_block ?_ | ((first | refine awp_runG [0, 2, 4] hX ?_ | refine awp_drawnG [0, 2, 4] hX mixed ?_ | refine awp_skip ?_ | refine awp_exit ?_); (simp [go_sem]; try (refine ⟨by kernel_rfl, ?_⟩)))))
    refine awp_ret ?_; (try simp only [thenQ, blkQ, loopQ]); refine retH_ret [(2, .ow 0)] [.birth 24 4] ?_
    simp [go_sem]
set_option maxHeartbeats 4000000 in
set_option maxRecDepth 20000 in
theorem put_m (L : List Bd) (b : Bd) (hl : L.length ≤ 100000) : Means true Tryd.prog 9 [bl L, ob b] (.tup [bl (put L b).1, ii (put L b).2]) := by
  have c1 := rightL_m L (by omega)
  have c2 := right_m b
  have c3 := clash_m b L (by omega)
  have c4 := clone_h L hl
  refine means_fn true 22 [.tmp 4, .tmp 5] Tryd.func9 rfl rfl rfl (by simp) (by decide) rfl fun X hX => ?_
  (repeat (first | refine awp_seq ?_ | refine awp_block ?_ | ((first | refine awp_runG [0, 1, 3, 4, 5, 13, 16] hX ?_ | refine awp_drawnG [0, 1, 3, 4, 5, 13, 16] hX mixed ?_ | refine awp_ret ?_ | refine awp_skip ?_ | refine awp_exit ?_); (simp [go_sem]; try (refine ⟨by kernel_rfl, ?_⟩)))))
  first | refine callK_intro (c1) rfl (by simp [go_sem]) rfl ?_ | refine callT_intro (c1) rfl (by simp [go_sem]) rfl ?_
  try (simp [go_sem]; try (refine ⟨by kernel_rfl, ?_⟩))
  (repeat (first | refine awp_seq ?_ | refine awp_block ?_ | ((first | refine awp_runG [0, 1, 3, 4, 5, 13, 16] hX ?_ | refine awp_drawnG [0, 1, 3, 4, 5, 13, 16] hX mixed ?_ | refine awp_ret ?_ | refine awp_skip ?_ | refine awp_exit ?_); (simp [go_sem]; try (refine ⟨by kernel_rfl, ?_⟩)))))
  first | refine callG_intro (fun hg => c2) rfl (by simp [go_sem]) rfl ?_ | refine callGT_intro (fun hg => c2) rfl (by simp [go_sem]) rfl ?_
  try (simp [go_sem]; try (refine ⟨by kernel_rfl, ?_⟩))
  (repeat (first | refine awp_seq ?_ | refine awp_block ?_ | ((first | refine awp_runG [0, 1, 3, 4, 5, 13, 16] hX ?_ | refine awp_drawnG [0, 1, 3, 4, 5, 13, 16] hX mixed ?_ | refine awp_ret ?_ | refine awp_skip ?_ | refine awp_exit ?_); (simp [go_sem]; try (refine ⟨by kernel_rfl, ?_⟩)))))
  refine awp_cond (b := !okL L || !okB b) (by simp [go_sem]) (fun hd => ?_) (fun hd => ?_)
  · have e : put L b = ([], 1) := by
      unfold put
      rw [if_neg]
      rintro ⟨q1, q2⟩
      rw [q1, q2] at hd; cases hd
    rw [e]
    (repeat (first | refine awp_seq ?_ | refine awp_block ?_ | ((first | refine awp_runG [0, 1, 3, 4, 5, 13, 16] hX ?_ | refine awp_drawnG [0, 1, 3, 4, 5, 13, 16] hX mixed ?_ | refine awp_ret ?_ | refine awp_skip ?_ | refine awp_exit ?_); (simp [go_sem]; try (refine ⟨by kernel_rfl, ?_⟩)))))
  · simp only [Bool.or_eq_false_iff, Bool.not_eq_false'] at hd
    have e : put L b = if clashB L b = true then ([], 5) else (L ++ [b], 0) := by unfold put; rw [if_pos hd]
    (repeat (first | refine awp_seq ?_ | refine awp_block ?_ | ((first | refine awp_runG [0, 1, 3, 4, 5, 13, 16] hX ?_ | refine awp_drawnG [0, 1, 3, 4, 5, 13, 16] hX mixed ?_ | refine awp_ret ?_ | refine awp_skip ?_ | refine awp_exit ?_); (simp [go_sem]; try (refine ⟨by kernel_rfl, ?_⟩)))))
    first | refine callK_intro (c3) rfl (by simp [go_sem]) rfl ?_ | refine callT_intro (c3) rfl (by simp [go_sem]) rfl ?_
    try (simp [go_sem]; try (refine ⟨by kernel_rfl, ?_⟩))
    refine awp_cond (b := clashB L b) (by simp [go_sem]) (fun hq => ?_) (fun hq => ?_)
    · rw [e, if_pos hq]
      (repeat (first | refine awp_seq ?_ | refine awp_block ?_ | ((first | refine awp_runG [0, 1, 3, 4, 5, 13, 16] hX ?_ | refine awp_drawnG [0, 1, 3, 4, 5, 13, 16] hX mixed ?_ | refine awp_ret ?_ | refine awp_skip ?_ | refine awp_exit ?_); (simp [go_sem]; try (refine ⟨by kernel_rfl, ?_⟩)))))
    · rw [e, if_neg (by rw [hq]; simp)]
      (repeat (first | refine awp_seq ?_ | refine awp_block ?_ | ((first | refine awp_runG [0, 1, 3, 4, 5, 13, 16] hX ?_ | refine awp_skip ?_ | refine awp_exit ?_); (simp [go_sem]; try (refine ⟨by kernel_rfl, ?_⟩)))))
      refine awp_drawUG [0, 1, 3, 4, 5, 13, 16] 3 hX mixed ?_; (simp [go_sem]; try (refine ⟨by kernel_rfl, ?_⟩))
      refine callUn_intro (c4) (by simp [go_sem]) (by simp [go_sem]) ?_
      (simp [go_sem]; try (refine ⟨by kernel_rfl, ?_⟩))
      (repeat refine And.intro (by first | omega | (unfold maxLen; omega) | kernel_rfl | (refine ⟨by first | omega | (unfold maxLen; omega), by first | omega | (unfold maxLen; omega)⟩) | grind) ?_)
      refine ⟨⟨by kernel_rfl, by kernel_rfl⟩, ?_⟩
      (repeat (first | refine awp_seq ?_ | refine awp_block ?_ | ((first | refine awp_runG [0, 1, 3, 4, 5, 13, 16] hX ?_ | refine awp_drawnG [0, 1, 3, 4, 5, 13, 16] hX mixed ?_ | refine awp_ret ?_ | refine awp_skip ?_ | refine awp_exit ?_); (simp [go_sem]; try (refine ⟨by kernel_rfl, ?_⟩)))))
end Go.Proofs.YtjgkjenbgadacaaDoor

namespace Go.Proofs.YtjgkjenbgadacaaDoor
open Go.RowKit Go.Ab
attribute [local irreducible] AWP Go.Ab.Sub Means MeansH CallK CallG CallT CallGT CallU
abbrev boxI (m : Int) : Cell := .row ⟨3, 1, [ii m]⟩
theorem open1_m (m : Int) (x : Bd) : MeansH Tryd.prog 37 [boxI m] [ob x, .el 0 1 0 0] (bb (decide (x.m = m))) [boxI m] := by
  refine meansH_fn 1 8 [.tmp 3] Tryd.func37 rfl rfl rfl (by simp) (by decide) rfl fun X hX => ?_
  (repeat (first | refine awp_seq ?_ | refine awp_block ?_ | ((first | refine awp_runG [0, 1, 2, 3, 1000000] hX ?_ | refine awp_drawnG [0, 1, 2, 3, 1000000] hX mixed ?_ | refine awp_skip ?_ | refine awp_exit ?_); (simp [go_sem]; try (refine ⟨by kernel_rfl, ?_⟩)))))
  refine awp_ret ?_; (try simp only [thenQ, blkQ, loopQ]); refine retH_ret [(3, bb (decide (x.m = m))), (1000000, .ow 0)] [.old 0 ⟨3, 1, [ii m]⟩] ?_
  simp [go_sem]
theorem ob_set (L : List Bd) (i : Nat) (b : Bd) : (L.map ob).set i (ob b) = (L.set i b).map ob := by rw [List.map_set]
set_option maxHeartbeats 4000000 in
set_option maxRecDepth 20000 in
theorem open_m (L : List Bd) (m n : Int) (hl : L.length ≤ 100000) : Means true Tryd.prog 11 [bl L, ii m, ii n] (.tup [bl (opn L m n).1, ii (opn L m n).2]) := by
  have c1 := rightL_m L (by omega)
  have c2 := coins_m n
  have c3 := indexF_m 37 3 1 (ii m) (fun b => decide (b.m = m)) L (by omega) (by simp [go_sem]) (fun x _ => open1_m m x) (by kernel_rfl)
  have c4 := clone_h L hl
  have hat : L.findIdx (fun b => decide (b.m = m)) = atM L m := rfl
  rw [hat] at c3
  refine means_fn true 40 [.tmp 6, .tmp 7] Tryd.func11 rfl rfl rfl (by simp) (by decide) rfl fun X hX => ?_
  (repeat (first | refine awp_seq ?_ | refine awp_block ?_ | ((first | refine awp_runG [0, 1, 2, 4, 6, 7, 8, 9, 17, 22, 27] hX ?_ | refine awp_drawnG [0, 1, 2, 4, 6, 7, 8, 9, 17, 22, 27] hX mixed ?_ | refine awp_ret ?_ | refine awp_skip ?_ | refine awp_exit ?_); (simp [go_sem]; try (refine ⟨by kernel_rfl, ?_⟩)))))
  first | refine callK_intro (c1) rfl (by simp [go_sem]) rfl ?_ | refine callT_intro (c1) rfl (by simp [go_sem]) rfl ?_
  try (simp [go_sem]; try (refine ⟨by kernel_rfl, ?_⟩))
  (repeat (first | refine awp_seq ?_ | refine awp_block ?_ | ((first | refine awp_runG [0, 1, 2, 4, 6, 7, 8, 9, 17, 22, 27] hX ?_ | refine awp_drawnG [0, 1, 2, 4, 6, 7, 8, 9, 17, 22, 27] hX mixed ?_ | refine awp_ret ?_ | refine awp_skip ?_ | refine awp_exit ?_); (simp [go_sem]; try (refine ⟨by kernel_rfl, ?_⟩)))))
  first | refine callG_intro (fun hg => c2) rfl (by simp [go_sem]) rfl ?_ | refine callGT_intro (fun hg => c2) rfl (by simp [go_sem]) rfl ?_
  try (simp [go_sem]; try (refine ⟨by kernel_rfl, ?_⟩))
  (repeat (first | refine awp_seq ?_ | refine awp_block ?_ | ((first | refine awp_runG [0, 1, 2, 4, 6, 7, 8, 9, 17, 22, 27] hX ?_ | refine awp_drawnG [0, 1, 2, 4, 6, 7, 8, 9, 17, 22, 27] hX mixed ?_ | refine awp_ret ?_ | refine awp_skip ?_ | refine awp_exit ?_); (simp [go_sem]; try (refine ⟨by kernel_rfl, ?_⟩)))))
  refine awp_cond (b := !okL L || !coinB n) (by simp [go_sem]) (fun hd => ?_) (fun hd => ?_)
  · have e : opn L m n = ([], 1) := by
      unfold opn
      rw [if_neg]
      rintro ⟨q1, q2⟩
      rw [q1, q2] at hd; cases hd
    rw [e]
    (repeat (first | refine awp_seq ?_ | refine awp_block ?_ | ((first | refine awp_runG [0, 1, 2, 4, 6, 7, 8, 9, 17, 22, 27] hX ?_ | refine awp_drawnG [0, 1, 2, 4, 6, 7, 8, 9, 17, 22, 27] hX mixed ?_ | refine awp_ret ?_ | refine awp_skip ?_ | refine awp_exit ?_); (simp [go_sem]; try (refine ⟨by kernel_rfl, ?_⟩)))))
  · simp only [Bool.or_eq_false_iff, Bool.not_eq_false'] at hd
    have e := congrArg (fun (f : List Bd × Int) => f) (show opn L m n = _ from by unfold opn; rw [if_pos hd])
    have hle := atM_le L m
    by_cases hi : atM L m < L.length
    · rw [List.getElem?_eq_getElem hi] at e
      simp only [] at e
      rw [if_pos hi] at c3
      (repeat (first | refine awp_seq ?_ | refine awp_block ?_ | ((first | refine awp_runG [0, 1, 2, 4, 6, 7, 8, 9, 17, 22, 27] hX ?_ | refine awp_drawnG [0, 1, 2, 4, 6, 7, 8, 9, 17, 22, 27] hX mixed ?_ | refine awp_ret ?_ | refine awp_skip ?_ | refine awp_exit ?_); (simp [go_sem]; try (refine ⟨by kernel_rfl, ?_⟩)))))
      first | refine callH_intro [0] (c3) (by simp [go_sem]) ?_ | refine callTQ_intro [0] (c3) (by simp [go_sem]) ?_ | refine callTE_intro [0] (c3) (by simp [go_sem]) ?_
      try (simp [go_sem]; try (refine ⟨by kernel_rfl, ?_⟩))
      (repeat (first | refine awp_seq ?_ | refine awp_block ?_ | ((first | refine awp_runG [0, 1, 2, 4, 6, 7, 8, 9, 17, 22, 27] hX ?_ | refine awp_drawnG [0, 1, 2, 4, 6, 7, 8, 9, 17, 22, 27] hX mixed ?_ | refine awp_ret ?_ | refine awp_skip ?_ | refine awp_exit ?_); (simp [go_sem]; try (refine ⟨by kernel_rfl, ?_⟩)))))
      refine awp_cond (b := false) (by simp [go_sem]; try omega) (fun h => by cases h) (fun _ => ?_)
      have hq := nth_ob hi
      have hos := ob_set L (atM L m) (opened L[atM L m] n)
      obtain ⟨x, hx⟩ : ∃ x, L[atM L m] = x := ⟨_, rfl⟩
      rw [hx] at e hq hos
      clear hx hat
      generalize atM L m = i at *
      (repeat (first | refine awp_seq ?_ | refine awp_block ?_ | ((first | refine awp_runG [0, 1, 2, 4, 6, 7, 8, 9, 17, 22, 27] hX ?_ | refine awp_drawnG [0, 1, 2, 4, 6, 7, 8, 9, 17, 22, 27] hX mixed ?_ | refine awp_ret ?_ | refine awp_skip ?_ | refine awp_exit ?_); (simp [go_sem, hi, hq]; try (refine ⟨by kernel_rfl, ?_⟩)))))
      refine awp_cond (b := x.o) (by simp [go_sem, hi, hq]) (fun hq2 => ?_) (fun hq2 => ?_)
      · rw [e, if_pos hq2]
        (repeat (first | refine awp_seq ?_ | refine awp_block ?_ | ((first | refine awp_runG [0, 1, 2, 4, 6, 7, 8, 9, 17, 22, 27] hX ?_ | refine awp_drawnG [0, 1, 2, 4, 6, 7, 8, 9, 17, 22, 27] hX mixed ?_ | refine awp_ret ?_ | refine awp_skip ?_ | refine awp_exit ?_); (simp [go_sem]; try (refine ⟨by kernel_rfl, ?_⟩)))))
      · rw [e, if_neg (by rw [hq2]; simp)]
        (repeat (first | refine awp_seq ?_ | refine awp_block ?_ | ((first | refine awp_runG [0, 1, 2, 4, 6, 7, 8, 9, 17, 22, 27] hX ?_ | refine awp_drawnG [0, 1, 2, 4, 6, 7, 8, 9, 17, 22, 27] hX mixed ?_ | refine awp_ret ?_ | refine awp_skip ?_ | refine awp_exit ?_); (simp [go_sem, hi, hq]; try (refine ⟨by kernel_rfl, ?_⟩)))))
        have hset : ∀ y, nth ((L.map ob).set i y) i = y := fun y => nth_some (by rw [List.getElem?_set_self (by simpa using hi)])
        first | refine callH_intro [] (c4) (by simp [go_sem]) ?_ | refine callTQ_intro [] (c4) (by simp [go_sem]) ?_ | refine callTE_intro [] (c4) (by simp [go_sem]) ?_
        try (simp [go_sem]; try (refine ⟨by kernel_rfl, ?_⟩))
        (repeat (first | refine awp_seq ?_ | refine awp_block ?_ | ((first | refine awp_runG [0, 1, 2, 4, 6, 7, 8, 9, 17, 22, 27] hX ?_ | refine awp_drawnG [0, 1, 2, 4, 6, 7, 8, 9, 17, 22, 27] hX mixed ?_ | refine awp_ret ?_ | refine awp_skip ?_ | refine awp_exit ?_); (simp [go_sem, hi, hq, hset]; try (refine ⟨by kernel_rfl, ?_⟩)))))
        refine .inr fun y hy => ?_
        rcases List.mem_or_eq_of_mem_set hy with hy | rfl
        · obtain ⟨b, _, rfl⟩ := List.mem_map.1 hy
          rfl
        · rfl
    · rw [List.getElem?_eq_none (by omega)] at e
      simp only [] at e
      rw [if_neg hi] at c3
      (repeat (first | refine awp_seq ?_ | refine awp_block ?_ | ((first | refine awp_runG [0, 1, 2, 4, 6, 7, 8, 9, 17, 22, 27] hX ?_ | refine awp_drawnG [0, 1, 2, 4, 6, 7, 8, 9, 17, 22, 27] hX mixed ?_ | refine awp_ret ?_ | refine awp_skip ?_ | refine awp_exit ?_); (simp [go_sem]; try (refine ⟨by kernel_rfl, ?_⟩)))))
      first | refine callH_intro [0] (c3) (by simp [go_sem]) ?_ | refine callTQ_intro [0] (c3) (by simp [go_sem]) ?_ | refine callTE_intro [0] (c3) (by simp [go_sem]) ?_
      try (simp [go_sem]; try (refine ⟨by kernel_rfl, ?_⟩))
      (repeat (first | refine awp_seq ?_ | refine awp_block ?_ | ((first | refine awp_runG [0, 1, 2, 4, 6, 7, 8, 9, 17, 22, 27] hX ?_ | refine awp_drawnG [0, 1, 2, 4, 6, 7, 8, 9, 17, 22, 27] hX mixed ?_ | refine awp_ret ?_ | refine awp_skip ?_ | refine awp_exit ?_); (simp [go_sem]; try (refine ⟨by kernel_rfl, ?_⟩)))))
      refine awp_cond (b := true) (by simp [go_sem]) (fun _ => ?_) (fun h => by cases h)
      rw [e]
      (repeat (first | refine awp_seq ?_ | refine awp_block ?_ | ((first | refine awp_runG [0, 1, 2, 4, 6, 7, 8, 9, 17, 22, 27] hX ?_ | refine awp_drawnG [0, 1, 2, 4, 6, 7, 8, 9, 17, 22, 27] hX mixed ?_ | refine awp_ret ?_ | refine awp_skip ?_ | refine awp_exit ?_); (simp [go_sem]; try (refine ⟨by kernel_rfl, ?_⟩)))))
end Go.Proofs.YtjgkjenbgadacaaDoor

