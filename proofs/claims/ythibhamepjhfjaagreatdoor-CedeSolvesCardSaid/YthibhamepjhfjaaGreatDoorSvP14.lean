/-
  Lemmas for the statement at the top.
-/
import Derived.Test.YthibhamepjhfjaaGreatDoorSvP13
import Derived.Test.YthibhamepjhfjaaGreatDoorSvFw4
import Derived.Test.YthibhamepjhfjaaGreatDoorSvP9
import Derived.Test.YthibhamepjhfjaaGreatDoorSvP6
import Derived.Test.YthibhamepjhfjaaGreatDoorSvFw5
import Derived.Test.YthibhamepjhfjaaGreatDoorSvP10
import Derived.Test.YthibhamepjhfjaaGreatDoorSvP11
set_option linter.all false
namespace Go.Proofs.YthibhamepjhfjaaGreatDoor.B
open Go.RowKit Go.Ab
attribute [local irreducible] AWP Go.Ab.Sub Means MeansH CallK CallG CallT CallGT
set_option maxHeartbeats 4000000 in
set_option maxRecDepth 20000 in
theorem stable_m (l : List Int) (R : List Rat) (hn : l.Nodup) (hord : ∀ i j (hi : i < l.length) (hj : j < l.length), i < j → l[i] < l[j]) (hr : ∀ x ∈ l, 0 ≤ x ∧ x < R.length) (hlt : l.length < 20) (hR : R.length ≤ 100000) (hok : okR R) :
    MeansH Tryz.prog 77 (sH l R) [.ow 0, ii l.length, clo] (.tup []) (sH (srt (kf R) l) R) := by
  have hi : MeansH Tryz.prog 106 (sH l R) [.ow 0, ii 0, ii l.length, clo] (.tup []) (sH (srt (kf R) l) R) := by
    have := insSort_m [] l [] R hn hord hr (by simp; omega) hR hok
    simpa [r3] using this
  have hlt2 : ¬ (20 : Int) ≤ l.length := by omega
  have hlt3 : ¬ (20 : Int) < l.length := by omega
  refine meansH_fn 2 63 [] Tryz.func77 rfl rfl rfl (by simp) (by decide) rfl fun X hX => ?_
  (repeat (first | refine awp_seq ?_ | refine awp_block ?_ | ((first | refine awp_runG [0, 1, 2, 6, 7, 8, 9, 13, 30, 35, 54, 1000000, 1000001] hX ?_ | refine awp_drawnG [0, 1, 2, 6, 7, 8, 9, 13, 30, 35, 54, 1000000, 1000001] hX mixed ?_ | refine awp_skip ?_ | refine awp_exit ?_); (simp [go_sem]; (try simp (disch := omega) only [w64, td, tm]); try (refine ⟨by kernel_rfl, ?_⟩)))))
  refine awp_loop (fun _ : Nat => ⟨mkE [(0, .ow 0), (1, ii l.length), (2, clo), (6, ii 20), (7, ii 0), (8, ii 20), (1000000, .ow 0), (1000001, .ow 1)], sH l R⟩) (fun _ => True) (fun _ => 0) 0 ?_ ?_ ?_
  · refine sub_of _ [.old 0 ⟨3, 1, l.map ii⟩, .old 1 ⟨24, 1, [bsl R]⟩] (by simp [go_sem]) ?_
    simp [go_sem]
  · trivial
  · intro _ _
    (repeat (first | refine awp_seq ?_ | refine awp_block ?_ | ((first | refine awp_runG [0, 1, 2, 6, 7, 8, 9, 13, 30, 35, 54, 1000000, 1000001] hX ?_ | refine awp_drawnG [0, 1, 2, 6, 7, 8, 9, 13, 30, 35, 54, 1000000, 1000001] hX mixed ?_ | refine awp_skip ?_ | refine awp_exit ?_); (simp [go_sem, hlt2]; (try simp (disch := omega) only [w64, td, tm]); try (refine ⟨by kernel_rfl, ?_⟩)))))
    refine awp_cond (b := false) (by simp [go_sem]; try omega) (fun h => by cases h) (fun _ => ?_)
    (repeat (first | refine awp_seq ?_ | refine awp_block ?_ | ((first | refine awp_runG [0, 1, 2, 6, 7, 8, 9, 13, 30, 35, 54, 1000000, 1000001] hX ?_ | refine awp_drawnG [0, 1, 2, 6, 7, 8, 9, 13, 30, 35, 54, 1000000, 1000001] hX mixed ?_ | refine awp_skip ?_ | refine awp_exit ?_); (simp [go_sem]; try (refine ⟨by kernel_rfl, ?_⟩)))))
    first | refine callH_intro [0, 1] (hi) (by simp [go_sem]) ?_ | refine callTQ_intro [0, 1] (hi) (by simp [go_sem]) ?_ | refine callTE_intro [0, 1] (hi) (by simp [go_sem]) ?_
    try (simp [go_sem]; try (refine ⟨by kernel_rfl, ?_⟩))
    (repeat (first | refine awp_seq ?_ | refine awp_block ?_ | ((first | refine awp_runG [0, 1, 2, 6, 7, 8, 9, 13, 30, 35, 54, 1000000, 1000001] hX ?_ | refine awp_drawnG [0, 1, 2, 6, 7, 8, 9, 13, 30, 35, 54, 1000000, 1000001] hX mixed ?_ | refine awp_skip ?_ | refine awp_exit ?_); (simp [go_sem]; try (refine ⟨by kernel_rfl, ?_⟩)))))
    refine awp_loop (fun _ : Nat => ⟨mkE [(0, .ow 0), (1, ii l.length), (2, clo), (6, ii 20), (1000000, .ow 0), (1000001, .ow 1)], sH (srt (kf R) l) R⟩) (fun _ => True) (fun _ => 0) 0 ?_ ?_ ?_
    · refine sub_of _ [.old 0 ⟨3, 1, (srt (kf R) l).map ii⟩, .old 1 ⟨24, 1, [bsl R]⟩] (by simp [go_sem]) ?_
      simp [go_sem]
    · trivial
    · intro _ _
      (repeat (first | refine awp_seq ?_ | refine awp_block ?_ | ((first | refine awp_runG [0, 1, 2, 6, 7, 8, 9, 13, 30, 35, 54, 1000000, 1000001] hX ?_ | refine awp_drawnG [0, 1, 2, 6, 7, 8, 9, 13, 30, 35, 54, 1000000, 1000001] hX mixed ?_ | refine awp_skip ?_ | refine awp_exit ?_); (simp [go_sem, hlt3]; (try simp (disch := omega) only [w64, td, tm]); try (refine ⟨by kernel_rfl, ?_⟩)))))
      refine awp_cond (b := false) (by simp [go_sem]; try omega) (fun h => by cases h) (fun _ => ?_)
      (repeat (first | refine awp_seq ?_ | refine awp_block ?_ | ((first | refine awp_runG [0, 1, 2, 6, 7, 8, 9, 13, 30, 35, 54, 1000000, 1000001] hX ?_ | refine awp_drawnG [0, 1, 2, 6, 7, 8, 9, 13, 30, 35, 54, 1000000, 1000001] hX mixed ?_ | refine awp_skip ?_ | refine awp_exit ?_); (simp [go_sem]; try (refine ⟨by kernel_rfl, ?_⟩)))))
      (try refine awp_ret ?_); (try simp only [thenQ, blkQ, loopQ]); refine retH_normal [(1000000, .ow 0), (1000001, .ow 1)] [.old 0 ⟨3, 1, (srt (kf R) l).map ii⟩, .old 1 ⟨24, 1, [bsl R]⟩] ?_
      simp [go_sem]
set_option maxHeartbeats 4000000 in
set_option maxRecDepth 20000 in
theorem sortS_m (l : List Int) (R : List Rat) (hn : l.Nodup) (hord : ∀ i j (hi : i < l.length) (hj : j < l.length), i < j → l[i] < l[j]) (hr : ∀ x ∈ l, 0 ≤ x ∧ x < R.length) (hlt : l.length < 20) (hR : R.length ≤ 100000) (hok : okR R) :
    MeansH Tryz.prog 45 (sH l R) [.ow 0, clo] (.tup []) (sH (srt (kf R) l) R) := by
  refine meansH_fn 2 9 [] Tryz.func45 rfl rfl rfl (by simp) (by decide) rfl fun X hX => ?_
  (repeat (first | refine awp_seq ?_ | refine awp_block ?_ | ((first | refine awp_runG [0, 1, 1000000, 1000001] hX ?_ | refine awp_drawnG [0, 1, 1000000, 1000001] hX mixed ?_ | refine awp_skip ?_ | refine awp_exit ?_); (simp [go_sem]; try (refine ⟨by kernel_rfl, ?_⟩)))))
  first | refine callH_intro [0, 1] (stable_m l R hn hord hr hlt hR hok) (by simp [go_sem]) ?_ | refine callTQ_intro [0, 1] (stable_m l R hn hord hr hlt hR hok) (by simp [go_sem]) ?_ | refine callTE_intro [0, 1] (stable_m l R hn hord hr hlt hR hok) (by simp [go_sem]) ?_
  try (simp [go_sem]; try (refine ⟨by kernel_rfl, ?_⟩))
  (repeat (first | refine awp_seq ?_ | refine awp_block ?_ | ((first | refine awp_runG [0, 1, 1000000, 1000001] hX ?_ | refine awp_drawnG [0, 1, 1000000, 1000001] hX mixed ?_ | refine awp_skip ?_ | refine awp_exit ?_); (simp [go_sem]; try (refine ⟨by kernel_rfl, ?_⟩)))))
  (try refine awp_ret ?_); (try simp only [thenQ, blkQ, loopQ]); refine retH_normal [(1000000, .ow 0), (1000001, .ow 1)] [.old 0 ⟨3, 1, (srt (kf R) l).map ii⟩, .old 1 ⟨24, 1, [bsl R]⟩] ?_
  simp [go_sem]
end Go.Proofs.YthibhamepjhfjaaGreatDoor.B

namespace Go.Proofs.YthibhamepjhfjaaGreatDoor
def sumL (l : List Int) : Int := l.foldr (· + ·) 0
@[simp] theorem sumL_nil : sumL [] = 0 := rfl
@[simp] theorem sumL_cons (a : Int) (l : List Int) : sumL (a :: l) = a + sumL l := rfl
def fill (C : List Int) (l : Int) : Int := sumL (C.map fun c => min c l)
theorem fill_cons (c : Int) (C : List Int) (l : Int) : fill (c :: C) l = min c l + fill C l := rfl
def shr (l : Int) : Int → List Int → List Int
  | _, [] => []
  | left, c :: C => if l < c ∧ 0 < left then (l + 1) :: shr l (left - 1) C else min c l :: shr l left C
structure isLv (C : List Int) (h l : Int) : Prop where
  low : 0 ≤ l
  le : fill C l ≤ h
  lt : h < fill C (l + 1)
end Go.Proofs.YthibhamepjhfjaaGreatDoor

namespace Go.Proofs.YthibhamepjhfjaaGreatDoor
def idxI (n : Nat) : List Int := (List.range n).map fun i : Nat => (i : Int)
theorem idxI_len (n : Nat) : (idxI n).length = n := by simp [idxI]
theorem idxI_at {n i : Nat} (h : i < (idxI n).length) : (idxI n)[i] = i := by simp [idxI]
theorem idxI_nodup (n : Nat) : (idxI n).Nodup := List.pairwise_iff_getElem.2 fun i j hi hj hij => by rw [idxI_at hi, idxI_at hj]; omega
theorem idxI_ord (n : Nat) : ∀ i j (hi : i < (idxI n).length) (hj : j < (idxI n).length), i < j → (idxI n)[i] < (idxI n)[j] := fun i j hi hj hij => by rw [idxI_at hi, idxI_at hj]; omega
theorem idxI_mem {n : Nat} {x : Int} : x ∈ idxI n ↔ 0 ≤ x ∧ x < n := by
  simp only [idxI, List.mem_map, List.mem_range]
  constructor
  · rintro ⟨i, hi, rfl⟩; omega
  · rintro ⟨h1, h2⟩; exact ⟨x.toNat, by omega, by omega⟩
def bump (L : List Int) (x : Int) : List Int := L.set x.toNat (L.getD x.toNat 0 + 1)
def bumps (L : List Int) (O : List Int) : List Int := O.foldl bump L
theorem bump_len (L : List Int) (x : Int) : (bump L x).length = L.length := by simp [bump]
theorem bumps_len : ∀ (O L : List Int), (bumps L O).length = L.length
  | [], _ => rfl
  | x :: O, L => by
    have := bumps_len O (bump L x)
    rwa [bump_len] at this
theorem bumps_succ {L O : List Int} {k : Nat} (h : k < O.length) : bumps L (O.take (k + 1)) = bump (bumps L (O.take k)) O[k] := by
  unfold bumps; rw [List.take_succ_eq_append_getElem h, List.foldl_append]; rfl
theorem bump_bd {L : List Int} {x B : Int} (h : ∀ v ∈ L, 0 ≤ v ∧ v ≤ B) : ∀ v ∈ bump L x, 0 ≤ v ∧ v ≤ B + 1 := by
  intro v hv
  unfold bump at hv
  by_cases hx : x.toNat < L.length
  · have e : L.getD x.toNat 0 = L[x.toNat] := by rw [List.getD_eq_getElem?_getD, List.getElem?_eq_getElem hx]; rfl
    rcases List.mem_or_eq_of_mem_set hv with hv | rfl
    · have := h v hv; omega
    · rw [e]; have := h _ (List.getElem_mem hx); omega
  · rw [List.set_eq_of_length_le (by omega)] at hv
    have := h v hv; omega
theorem bumps_bd : ∀ (O : List Int) {L : List Int} {B : Int}, (∀ v ∈ L, 0 ≤ v ∧ v ≤ B) → ∀ v ∈ bumps L O, 0 ≤ v ∧ v ≤ B + O.length
  | [], L, B, h, v, hv => by have := h v hv; simp; omega
  | x :: O, L, B, h, v, hv => by
    have := bumps_bd O (bump_bd (x := x) h) v hv
    simp only [List.length_cons]; omega
end Go.Proofs.YthibhamepjhfjaaGreatDoor

namespace Go.Proofs.YthibhamepjhfjaaGreatDoor
end Go.Proofs.YthibhamepjhfjaaGreatDoor

namespace Go.Proofs.YthibhamepjhfjaaGreatDoor
open Go.RowKit Go.Ab
attribute [local irreducible] AWP Go.Ab.Sub Means MeansH CallK CallG CallT CallGT CallU
end Go.Proofs.YthibhamepjhfjaaGreatDoor

namespace Go.Proofs.YthibhamepjhfjaaGreatDoor
open Go.RowKit Go.Ab
attribute [local irreducible] AWP Go.Ab.Sub Means MeansH CallK CallG CallT CallGT CallU
end Go.Proofs.YthibhamepjhfjaaGreatDoor

namespace Go.Proofs.YthibhamepjhfjaaGreatDoor
open Go.RowKit Go.Ab
end Go.Proofs.YthibhamepjhfjaaGreatDoor

namespace Go.Proofs.YthibhamepjhfjaaGreatDoor
open Go.RowKit Go.Ab
attribute [local irreducible] AWP Go.Ab.Sub Means MeansH CallK CallG CallT CallGT CallU
end Go.Proofs.YthibhamepjhfjaaGreatDoor

namespace Go.Proofs.YthibhamepjhfjaaGreatDoor
open Go.RowKit Go.Ab
attribute [local irreducible] AWP Go.Ab.Sub Means MeansH CallK CallG CallT CallGT CallU
end Go.Proofs.YthibhamepjhfjaaGreatDoor

namespace Go.Proofs.YthibhamepjhfjaaGreatDoor
open Go.RowKit Go.Ab
attribute [local irreducible] AWP Go.Ab.Sub Means MeansH CallK CallG CallT CallGT CallU
end Go.Proofs.YthibhamepjhfjaaGreatDoor

namespace Go.Proofs.YthibhamepjhfjaaGreatDoor
open Go.RowKit Go.Ab
attribute [local irreducible] AWP Go.Ab.Sub Means MeansH CallK CallG CallT CallGT CallU
end Go.Proofs.YthibhamepjhfjaaGreatDoor

namespace Go.Proofs.YthibhamepjhfjaaGreatDoor
open Go.RowKit Go.Ab
attribute [local irreducible] AWP Go.Ab.Sub Means MeansH CallK CallG CallT CallGT CallU
end Go.Proofs.YthibhamepjhfjaaGreatDoor

namespace Go.Proofs.YthibhamepjhfjaaGreatDoor
open Go.RowKit Go.Ab
attribute [local irreducible] AWP Go.Ab.Sub Means MeansH CallK CallG CallT CallGT CallU
end Go.Proofs.YthibhamepjhfjaaGreatDoor

namespace Go.Proofs.YthibhamepjhfjaaGreatDoor
open Go.RowKit Go.Ab
attribute [local irreducible] AWP Go.Ab.Sub Means MeansH CallK CallG CallT CallGT CallU
end Go.Proofs.YthibhamepjhfjaaGreatDoor

namespace Go.Proofs.YthibhamepjhfjaaGreatDoor
open Go.RowKit Go.Ab
attribute [local irreducible] AWP Go.Ab.Sub Means MeansH CallK CallG CallT CallGT CallU
theorem Add_fbad (s1 : Int) (a : List Int) (t1 : Int) (b : List Int) (s2 : Int) (c : List Int) (t2 : Int) (d : List Int) (ha : a.length ≤ 100000) (hb : b.length ≤ 100000) (hc : c.length ≤ 100000) (hd : d.length ≤ 100000) (h : ¬ (isF s1 a t1 b ∧ isF s2 c t2 d)) : Means false Tryz.prog 60 [frac4 s1 a t1 b, frac4 s2 c t2 d] (.tup [frZ 0 0, ii 1]) := by
  have r1 := Right_f s1 a (by omega) t1 b (by omega)
  have r2 := Right_f s2 c (by omega) t2 d (by omega)
  obtain ⟨x, hx⟩ : ∃ x, decide (isF s1 a t1 b) = x := ⟨_, rfl⟩
  obtain ⟨y, hy⟩ : ∃ y, decide (isF s2 c t2 d) = y := ⟨_, rfl⟩
  have hxy : (!x || !y) = true := by
    rw [← hx, ← hy]; simp; grind
  rw [hx] at r1
  rw [hy] at r2
  refine means_fn false 46 [.cell 4 41, .tmp 5] Tryz.func60 rfl rfl rfl (by simp) (by decide) rfl fun X hX => ?_
  (repeat (first | refine awp_seq ?_ | refine awp_block ?_ | ((first | refine awp_runG [0, 1, 2, 3, 4, 5, 6, 7, 8, 9, 17] hX ?_ | refine awp_drawnG [0, 1, 2, 3, 4, 5, 6, 7, 8, 9, 17] hX mixed ?_ | refine awp_ret ?_ | refine awp_skip ?_ | refine awp_exit ?_); (simp [go_sem]; try (refine ⟨by kernel_rfl, ?_⟩)))))
  first | refine callK_intro (r1) rfl (by simp [go_sem]) rfl ?_ | refine callT_intro (r1) rfl (by simp [go_sem]) rfl ?_
  try (simp [go_sem]; try (refine ⟨by kernel_rfl, ?_⟩))
  first | refine callG_intro (fun hg => r2) rfl (by simp [go_sem]) rfl ?_ | refine callGT_intro (fun hg => r2) rfl (by simp [go_sem]) rfl ?_
  try (simp [go_sem]; try (refine ⟨by kernel_rfl, ?_⟩))
  refine awp_cond (b := true) (by simpa [go_sem] using hxy) (fun _ => ?_) (fun h => by cases h)
  (repeat (first | refine awp_seq ?_ | refine awp_block ?_ | ((first | refine awp_runG [0, 1, 2, 3, 4, 5, 6, 7, 8, 9, 17] hX ?_ | refine awp_drawnG [0, 1, 2, 3, 4, 5, 6, 7, 8, 9, 17] hX mixed ?_ | refine awp_ret ?_ | refine awp_skip ?_ | refine awp_exit ?_); (simp [go_sem]; try (refine ⟨by kernel_rfl, ?_⟩)))))
end Go.Proofs.YthibhamepjhfjaaGreatDoor

namespace Go.Proofs.YthibhamepjhfjaaGreatDoor
open Go.RowKit Go.Ab
attribute [local irreducible] AWP Go.Ab.Sub Means MeansH MeansX CallK CallG CallT CallGT CallU
def fl (r : Rat) : Int := r.num / (r.den : Int)
def rs (r : Rat) : Rat := r - ((fl r : Int) : Rat)
theorem den_posQ (r : Rat) : (0 : Rat) < ((r.den : Int) : Rat) := Rat.intCast_pos.2 (by have := r.den_pos; omega)
theorem fl_le (r : Rat) : ((fl r : Int) : Rat) ≤ r := by
  have hd : 0 < (r.den : Int) := by have := r.den_pos; omega
  have h1 : fl r * (r.den : Int) ≤ r.num := Int.ediv_mul_le _ (by omega)
  have h2 : ((fl r * (r.den : Int) : Int) : Rat) ≤ ((r.num : Int) : Rat) := Rat.intCast_le_intCast.2 h1
  rw [Rat.intCast_mul, num_den r] at h2
  exact Rat.le_of_mul_le_mul_right h2 (den_posQ r)
theorem lt_fl (r : Rat) : r < ((fl r : Int) : Rat) + 1 := by
  have hd : 0 < (r.den : Int) := by have := r.den_pos; omega
  have h1 : r.num < (fl r + 1) * (r.den : Int) := Int.lt_ediv_add_one_mul_self _ hd
  have h2 : ((r.num : Int) : Rat) < (((fl r + 1) * (r.den : Int) : Int) : Rat) := Rat.intCast_lt_intCast.2 h1
  rw [Rat.intCast_mul, num_den r, Rat.intCast_add] at h2
  have h3 := Rat.lt_of_mul_lt_mul_right h2 (Rat.le_of_lt (den_posQ r))
  simpa using h3
theorem rs_nonneg (r : Rat) : 0 ≤ rs r := by have := fl_le r; unfold rs; grind
theorem rs_lt (r : Rat) : rs r < 1 := by have := lt_fl r; unfold rs; grind
theorem fl_bd {r : Rat} {B : Int} (h0 : 0 ≤ r) (h1 : r ≤ ((B : Int) : Rat)) : 0 ≤ fl r ∧ fl r ≤ B := by
  refine ⟨?_, ?_⟩
  · unfold fl
    exact Int.ediv_nonneg (Rat.num_nonneg.2 h0) (by omega)
  · have h2 : ((fl r : Int) : Rat) ≤ ((B : Int) : Rat) := by have := fl_le r; grind
    exact Rat.intCast_le_intCast.1 h2
theorem okSub_fl {r : Rat} (hq : rq r) (h0 : 0 ≤ r) : okSub r ((fl r : Int) : Rat) := by
  have hd : 0 < (r.den : Int) := by have := r.den_pos; omega
  have hn := Rat.num_nonneg.2 h0
  have h1 : fl r * (r.den : Int) ≤ r.num := Int.ediv_mul_le _ (by omega)
  have h2 : 0 ≤ fl r := Int.ediv_nonneg hn (by omega)
  have h3 : 0 ≤ fl r * (r.den : Int) := Int.mul_nonneg h2 (by omega)
  have h4 : ((((fl r : Int) : Rat).den : Nat) : Int) = 1 := by rw [Rat.den_intCast]; rfl
  obtain ⟨z1, z2⟩ := hq
  unfold okSub sumP
  rw [h4, Rat.num_intCast, Int.mul_one, Int.mul_one]
  have e : -fl r * (r.den : Int) = -(fl r * (r.den : Int)) := Int.neg_mul _ _
  rw [e]
  generalize fl r * (r.den : Int) = y at *
  refine ⟨⟨z1, ?_, ?_⟩, z2⟩
  all_goals
    unfold rz ab at *
    repeat' split
    all_goals (try omega)
    all_goals (repeat' split at z1)
    all_goals (try omega)
def rsum (ks : List Rat) (i : Nat) : Rat := sumR (fun t => rs (ks.getD t 0)) i
theorem rsum_succ (ks : List Rat) (i : Nat) : rsum ks (i + 1) = rsum ks i + rs (ks.getD i 0) := rfl
theorem rsum_bd (ks : List Rat) : ∀ i, 0 ≤ rsum ks i ∧ rsum ks i ≤ ((i : Int) : Rat)
  | 0 => ⟨by show (0 : Rat) ≤ 0; grind, by show (0 : Rat) ≤ _; simp⟩
  | i + 1 => by
    obtain ⟨h1, h2⟩ := rsum_bd ks i
    have h3 := rs_nonneg (ks.getD i 0)
    have h4 := rs_lt (ks.getD i 0)
    rw [rsum_succ]
    refine ⟨by grind, ?_⟩
    have : (((i + 1 : Nat) : Int) : Rat) = ((i : Int) : Rat) + 1 := by
      rw [show ((i + 1 : Nat) : Int) = (i : Int) + 1 by omega, Rat.intCast_add]; rfl
    rw [this]; grind
def okS (ks : List Rat) (i : Nat) : Prop := ∀ j, j < i → okAdd (rsum ks j) (rs (ks.getD j 0))
noncomputable def svF (ks : List Rat) (i : Nat) : Fr := @ite _ (okS ks i) (Classical.propDecidable _) (frR (rsum ks i)) ⟨sg 0, dg (ab 0), sg 0, dg (ab 0)⟩
noncomputable def ev (ks : List Rat) (i : Nat) : Int := @ite _ (okS ks i) (Classical.propDecidable _) 0 6
theorem okS_0 (ks : List Rat) : okS ks 0 := fun j hj => by omega
theorem okS_dec {ks : List Rat} {i : Nat} (h : okS ks (i + 1)) : okS ks i := fun j hj => h j (by omega)
theorem rs_rq {r : Rat} (hq : rq r) (h0 : 0 ≤ r) : rq (rs r) := sub_rq (okSub_fl hq h0)
theorem rq_0 : rq 0 := ⟨rz_i (by decide), rz_i (by decide)⟩
theorem rsum_rq {ks : List Rat} : ∀ {i : Nat}, okS ks i → rq (rsum ks i)
  | 0, _ => rq_0
  | i + 1, h => by rw [rsum_succ]; exact add_rq (h i (by omega))
theorem sub_k (c : Int) {r : Rat} (hq : rq r) (h0 : 0 ≤ r) (h1 : fl r ≤ 4503599627370496) : MeansH Tryz.prog 43 [calC c] [.el 0 1 0 0, frq r, frq ((fl r : Int) : Rat)] (frq (rs r)) [calC c] := by
  have h2 : 0 ≤ fl r := Int.ediv_nonneg (Rat.num_nonneg.2 h0) (by omega)
  have := sub_c c (Sub_qt hq (of_rq (p := fl r) (q := 1) (by omega) (by decide) (by decide)) (by rw [cast1]; exact okSub_fl hq h0))
  have e : kp c 0 = c := by unfold kp; split <;> simp_all
  rw [e, cast1] at this
  exact this
theorem of_k (c : Int) {p : Int} (hp : -9223372036854775808 ≤ p ∧ p ≤ 9223372036854775807) : MeansH Tryz.prog 33 [calC c] [.el 0 1 0 0, ii p, ii 1] (frq ((p : Int) : Rat)) [calC c] := by
  have := of_c c (Of_q p 1 hp (by decide) (by decide))
  have e : kp c 0 = c := by unfold kp; split <;> simp_all
  rw [e, cast1] at this
  exact this
theorem add_k {ks : List Rat} {i : Nat} (hq : rq (ks.getD i 0)) (h0 : 0 ≤ ks.getD i 0) : MeansH Tryz.prog 44 [calC (ev ks i)] [.el 0 1 0 0, fv (svF ks i), frq (rs (ks.getD i 0))] (fv (svF ks (i + 1))) [calC (ev ks (i + 1))] := by
  have hr := rs_rq hq h0
  by_cases h : okS ks i
  · have e1 : svF ks i = frR (rsum ks i) := if_pos h
    have e2 : ev ks i = 0 := if_pos h
    have hs := rsum_rq h
    have ha := Add_q hs hr
    by_cases h2 : okAdd (rsum ks i) (rs (ks.getD i 0))
    · have h3 : okS ks (i + 1) := fun j hj => by
        by_cases e : j = i
        · subst e; exact h2
        · exact h j (by omega)
      have e3 : svF ks (i + 1) = frR (rsum ks (i + 1)) := if_pos h3
      have e4 : ev ks (i + 1) = 0 := if_pos h3
      rw [qv_t h2] at ha
      rw [e1, e2, e3, e4, rsum_succ]
      exact add_c 0 ha
    · have h3 : ¬ okS ks (i + 1) := fun e => h2 (e i (by omega))
      have e3 : svF ks (i + 1) = ⟨sg 0, dg (ab 0), sg 0, dg (ab 0)⟩ := if_neg h3
      have e4 : ev ks (i + 1) = 6 := if_neg h3
      rw [qv_f h2] at ha
      rw [e1, e2, e3, e4]
      exact add_c 0 ha
  · have h3 : ¬ okS ks (i + 1) := fun e => h (okS_dec e)
    have e1 : svF ks i = ⟨sg 0, dg (ab 0), sg 0, dg (ab 0)⟩ := if_neg h
    have e2 : ev ks i = 6 := if_neg h
    have e3 : svF ks (i + 1) = ⟨sg 0, dg (ab 0), sg 0, dg (ab 0)⟩ := if_neg h3
    have e4 : ev ks (i + 1) = 6 := if_neg h3
    rw [e1, e2, e3, e4]
    have hn : ¬ (isF (sg 0) (dg (ab 0)) (sg 0) (dg (ab 0)) ∧ isF (sg (rs (ks.getD i 0)).num) (dg (ab (rs (ks.getD i 0)).num)) (sg ((rs (ks.getD i 0)).den : Int)) (dg (ab ((rs (ks.getD i 0)).den : Int)))) := fun e => by
      have := e.1
      rw [isF_iff (rz_i (by decide)) (rz_i (by decide))] at this
      exact absurd this.2.2.1 (by decide)
    exact add_c 6 (Add_fbad _ _ _ _ _ _ _ _ (by decide) (by decide) (by have := (dg_len_iff 60).2 hr.1; omega) (by have := (dg_len_iff 60).2 hr.2; omega) hn)
end Go.Proofs.YthibhamepjhfjaaGreatDoor

namespace Go.Proofs.YthibhamepjhfjaaGreatDoor
open Go.RowKit Go.Ab
attribute [local irreducible] AWP Go.Ab.Sub Means MeansH MeansX CallK CallG CallT CallGT CallU
def most : Rat := ((4503599627370496 : Int) : Rat)
def cArg (ks : List Rat) (T : List AV) : Prop := T ≠ [] ∨ ∃ k ∈ ks, k < 0 ∨ most < k
def coinL (ks : List Rat) : List Int := bumps (ks.map fl) ((srt (B.kf (ks.map rs)) (idxI ks.length)).take (fl (rsum ks ks.length)).toNat)
noncomputable def coinV (ks : List Rat) (T : List AV) : AV :=
  @ite _ ((ks.length + T.length = 0 ∨ 12 < ks.length + T.length) ∨ cArg ks T) (Classical.propDecidable _) (.tup [.sl [], ii 1]) (@ite _ (okS ks ks.length) (Classical.propDecidable _) (if rsum ks ks.length = ((fl (rsum ks ks.length) : Int) : Rat) then .tup [il (coinL ks), ii 0] else .tup [.sl [], ii 1]) (.tup [.sl [], ii 6]))
def tailOk (T : List AV) : Prop := T = [] ∨ ∃ x T', T = fv x :: T' ∧ Means false Tryz.prog 41 [fv x] (bb false)
def okTo (ks : List Rat) (i : Nat) : Prop := ∀ k, k < i → 0 ≤ ks.getD k 0 ∧ ks.getD k 0 ≤ most
theorem okTo_succ {ks : List Rat} {i : Nat} {f : Rat} (h : okTo ks i) (hf : ks.getD i 0 = f) (h0 : 0 ≤ f) (h1 : f ≤ most) : okTo ks (i + 1) := fun k hk => by
  by_cases e : k = i
  · subst e; rw [hf]; exact ⟨h0, h1⟩
  · exact h k (by omega)
def restA (ks : List Rat) (i : Nat) : List AV := (List.range i).map fun k => frq (rs (ks.getD k 0))
def outA (ks : List Rat) (i : Nat) : List AV := (List.range i).map fun k => ii (fl (ks.getD k 0))
def ordA (i : Nat) : List AV := (List.range i).map fun k : Nat => ii (k : Int)
theorem restA_succ (ks : List Rat) (i : Nat) : restA ks (i + 1) = restA ks i ++ [frq (rs (ks.getD i 0))] := by unfold restA; rw [List.range_succ, List.map_append]; rfl
theorem outA_succ (ks : List Rat) (i : Nat) : outA ks (i + 1) = outA ks i ++ [ii (fl (ks.getD i 0))] := by unfold outA; rw [List.range_succ, List.map_append]; rfl
theorem ordA_succ (i : Nat) : ordA (i + 1) = ordA i ++ [ii (i : Int)] := by unfold ordA; rw [List.range_succ, List.map_append]; rfl
theorem restA_len (ks : List Rat) (i : Nat) : (restA ks i).length = i := by simp [restA]
theorem outA_len (ks : List Rat) (i : Nat) : (outA ks i).length = i := by simp [outA]
theorem ordA_len (i : Nat) : (ordA i).length = i := by simp [ordA]
theorem range_getD {α β : Type} (ks : List α) (d : α) (f : α → β) : (List.range ks.length).map (fun k => f (ks.getD k d)) = ks.map f := by
  apply List.ext_getElem
  · simp
  · intro i h1 h2
    have : i < ks.length := by simpa using h2
    simp [List.getD_eq_getElem?_getD, List.getElem?_eq_getElem this]
theorem restA_full (ks : List Rat) : restA ks ks.length = (ks.map rs).map frq := by
  rw [List.map_map]; exact range_getD ks 0 fun r => frq (rs r)
theorem outA_full (ks : List Rat) : outA ks ks.length = (ks.map fl).map ii := by
  rw [List.map_map]; exact range_getD ks 0 fun r => ii (fl r)
theorem ordA_full (n : Nat) : ordA n = (idxI n).map ii := by unfold ordA idxI; rw [List.map_map]; rfl
theorem zone_rng {n : Nat} {f : Nat → AV} (h : ∀ k, zoneEs [f k] = true) : zoneEs ((List.range n).map f) = true := by
  unfold zoneEs
  rw [List.all_eq_true]
  intro e he
  obtain ⟨k, _, rfl⟩ := List.mem_map.1 he
  have := h k
  unfold zoneEs at this
  rw [List.all_eq_true] at this
  exact this _ (by simp)
theorem restA_zone (ks : List Rat) (i : Nat) : zoneEs (restA ks i) = true := zone_rng fun _ => rfl
theorem outA_zone (ks : List Rat) (i : Nat) : zoneEs (outA ks i) = true := zone_rng fun _ => rfl
theorem ordA_zone (i : Nat) : zoneEs (ordA i) = true := zone_rng fun _ => rfl
theorem nth_hd {A B : List AV} {v : AV} {k : Nat} (h : A[k]? = some v) : nth (A ++ B) k = v := nth_some (by
  rw [List.getElem?_append_left (by rcases Nat.lt_or_ge k A.length with h2 | h2; exact h2; rw [List.getElem?_eq_none h2] at h; cases h)]; exact h)
theorem nth_end {A B : List AV} {v : AV} {k : Nat} (h : A.length = k) : nth (A ++ v :: B) k = v := nth_some (by
  rw [List.getElem?_append_right (by omega), h, Nat.sub_self]; rfl)
set_option maxHeartbeats 8000000 in
set_option maxRecDepth 20000 in
theorem Coins_q (ks : List Rat) (T : List AV) (hq : ∀ k ∈ ks, rq k) (hT : tailOk T) (hl : ks.length + T.length ≤ 100000) : Means false Tryz.prog 12 [.sl (ks.map frq ++ T)] (coinV ks T) := by
  obtain ⟨V, hV⟩ : ∃ V, coinV ks T = V := ⟨_, rfl⟩
  have hzr : svF ks 0 = frR 0 := if_pos (okS_0 ks)
  have hev : ev ks 0 = 0 := if_pos (okS_0 ks)
  have k0 := of_k 0 (p := 0) (by decide)
  have k1 := of_k 0 (p := 4503599627370496) (by decide)
  have hmr : ((4503599627370496 : Int) : Rat) = most := rfl
  have hz0 : (((0 : Int)) : Rat) = 0 := rfl
  have hmq : rq most := by
    have := of_rq (p := 4503599627370496) (q := 1) (by decide) (by decide) (by decide)
    rwa [cast1] at this
  rw [hz0] at k0
  rw [hmr] at k1
  obtain ⟨mr, hmr2⟩ : ∃ m, most = m := ⟨_, rfl⟩
  obtain ⟨zr, hzr2⟩ : ∃ z : Rat, 0 = z := ⟨_, rfl⟩
  rw [hmr2] at k1 hmq
  rw [hzr2] at k0 hzr
  have hzq : rq zr := hzr2 ▸ rq_0
  rw [hV]
  refine means_fn false 128 [.tmp 2, .tmp 3] Tryz.func12 rfl rfl rfl (by simp) (by decide) rfl fun X hX => ?_
  (repeat (first | refine awp_seq ?_ | refine awp_block ?_ | ((first | refine awp_runG [0, 2, 3, 4, 5, 6, 7, 8, 9, 10, 11, 12, 13, 15, 18, 26, 35, 36, 37, 38, 56, 92, 108, 114, 115, 116, 117] hX ?_ | refine awp_drawnG [0, 2, 3, 4, 5, 6, 7, 8, 9, 10, 11, 12, 13, 15, 18, 26, 35, 36, 37, 38, 56, 92, 108, 114, 115, 116, 117] hX mixed ?_ | refine awp_ret ?_ | refine awp_skip ?_ | refine awp_exit ?_); (simp [go_sem]; try (refine ⟨by kernel_rfl, ?_⟩)))))
  by_cases hlen : ks.length + T.length = 0 ∨ 12 < ks.length + T.length
  · have e : V = .tup [.sl [], ii 1] := by rw [← hV]; exact if_pos (.inl hlen)
    rw [e]
    refine awp_cond (b := true) (by simp [go_sem]; omega) (fun _ => ?_) (fun h => by cases h)
    (repeat (first | refine awp_seq ?_ | refine awp_block ?_ | ((first | refine awp_runG [0, 2, 3, 4, 5, 6, 7, 8, 9, 10, 11, 12, 13, 15, 18, 26, 35, 36, 37, 38, 56, 92, 108, 114, 115, 116, 117] hX ?_ | refine awp_drawnG [0, 2, 3, 4, 5, 6, 7, 8, 9, 10, 11, 12, 13, 15, 18, 26, 35, 36, 37, 38, 56, 92, 108, 114, 115, 116, 117] hX mixed ?_ | refine awp_ret ?_ | refine awp_skip ?_ | refine awp_exit ?_); (simp [go_sem]; try (refine ⟨by kernel_rfl, ?_⟩)))))
  refine awp_cond (b := false) (by simp [go_sem]; omega) (fun h => by cases h) (fun _ => ?_)
  (repeat (first | refine awp_seq ?_ | refine awp_block ?_ | ((first | refine awp_runG [0, 2, 3, 4, 5, 6, 7, 8, 9, 10, 11, 12, 13, 15, 18, 26, 35, 36, 37, 38, 56, 92, 108, 114, 115, 116, 117] hX ?_ | refine awp_drawnG [0, 2, 3, 4, 5, 6, 7, 8, 9, 10, 11, 12, 13, 15, 18, 26, 35, 36, 37, 38, 56, 92, 108, 114, 115, 116, 117] hX mixed ?_ | refine awp_ret ?_ | refine awp_skip ?_ | refine awp_exit ?_); (simp [go_sem]; try (refine ⟨by kernel_rfl, ?_⟩)))))
  first | refine callH_intro [0] (k0) (by simp [go_sem]) ?_ | refine callTQ_intro [0] (k0) (by simp [go_sem]) ?_ | refine callTE_intro [0] (k0) (by simp [go_sem]) ?_
  try (simp [go_sem]; try (refine ⟨by kernel_rfl, ?_⟩))
  first | refine callH_intro [0] (k0) (by simp [go_sem]) ?_ | refine callTQ_intro [0] (k0) (by simp [go_sem]) ?_ | refine callTE_intro [0] (k0) (by simp [go_sem]) ?_
  try (simp [go_sem]; try (refine ⟨by kernel_rfl, ?_⟩))
  first | refine callH_intro [0] (k1) (by simp [go_sem]) ?_ | refine callTQ_intro [0] (k1) (by simp [go_sem]) ?_ | refine callTE_intro [0] (k1) (by simp [go_sem]) ?_
  try (simp [go_sem]; try (refine ⟨by kernel_rfl, ?_⟩))
  (repeat (first | refine awp_seq ?_ | refine awp_block ?_ | ((first | refine awp_runG [0, 2, 3, 4, 5, 6, 7, 8, 9, 10, 11, 12, 13, 15, 18, 26, 35, 36, 37, 38, 56, 92, 108, 114, 115, 116, 117] hX ?_ | refine awp_drawnG [0, 2, 3, 4, 5, 6, 7, 8, 9, 10, 11, 12, 13, 15, 18, 26, 35, 36, 37, 38, 56, 92, 108, 114, 115, 116, 117] hX mixed ?_ | refine awp_ret ?_ | refine awp_skip ?_ | refine awp_exit ?_); (simp [go_sem]; try (refine ⟨by kernel_rfl, ?_⟩)))))
  refine awp_loop (fun i : Nat => ⟨mkE [(0, .sl (ks.map frq ++ T)), (4, .el 0 1 0 0), (5, .el 1 4 0 0), (6, .el 2 4 0 0), (7, .el 3 4 0 0), (8, .ow 6), (9, .ow 7), (10, .el 4 1 0 0), (35, .sl (ks.map frq ++ T)), (36, ii (ks.length + T.length : Nat)), (37, ii i)], [calC (ev ks i), .row ⟨41, 4, [fv (svF ks i)]⟩, .row ⟨41, 4, [frq zr]⟩, .row ⟨41, 4, [frq mr]⟩, .row ⟨24, 1, [.ow 5]⟩, .row ⟨41, 4, restA ks i⟩, .row ⟨3, 1, outA ks i⟩, .row ⟨3, 1, ordA i⟩]⟩) (fun i => i ≤ ks.length ∧ okTo ks i) (fun i => ks.length + T.length - i) 0 ?_ ?_ ?_
  · rw [hzr, hev]
    refine sub_of _ [.old 0 ⟨56, 1, [.agg [ii 0]]⟩, .old 1 ⟨41, 4, [frq zr]⟩, .old 2 ⟨41, 4, [frq zr]⟩, .old 3 ⟨41, 4, [frq mr]⟩, .old 4 ⟨24, 1, [.ow 5]⟩, .birth 41 4, .birth 3 1, .birth 3 1] (by simp [go_sem]) ?_
    simp [go_sem]
  · exact ⟨by omega, fun k hk => by omega⟩
  · rintro i ⟨hi, hp⟩
    have hn0 : ks.length + T.length ≤ 12 := by omega
    have wi := w64 (x := (i : Int) + 1) (by omega) (by omega)
    (repeat (first | refine awp_seq ?_ | refine awp_block ?_ | ((first | refine awp_runG [0, 2, 3, 4, 5, 6, 7, 8, 9, 10, 11, 12, 13, 15, 18, 26, 35, 36, 37, 38, 56, 92, 108, 114, 115, 116, 117] hX ?_ | refine awp_drawnG [0, 2, 3, 4, 5, 6, 7, 8, 9, 10, 11, 12, 13, 15, 18, 26, 35, 36, 37, 38, 56, 92, 108, 114, 115, 116, 117] hX mixed ?_ | refine awp_ret ?_ | refine awp_skip ?_ | refine awp_exit ?_); (simp [go_sem]; try (refine ⟨by kernel_rfl, ?_⟩)))))
    refine awp_cond (b := decide (i < ks.length + T.length)) (by simp [go_sem]; try omega) (fun hb => ?_) (fun hb => ?_)
    · simp only [decide_eq_true_eq] at hb
      by_cases hik : i < ks.length
      · have hgi : ks.getD i 0 = ks[i] := by rw [List.getD_eq_getElem?_getD, List.getElem?_eq_getElem hik]; rfl
        have hfq : rq (ks.getD i 0) := by rw [hgi]; exact hq _ (List.getElem_mem hik)
        have q1 : nth (ks.map frq ++ T) i = frq (ks.getD i 0) := nth_hd (by simp [hik])
        have hil : (i : Int) < (ks.length : Int) + (T.length : Int) := by omega
        have r1 := Right_t _ _ (rf_q hfq)
        have m1 := Compare_q hfq hzq
        have m2 := Compare_q hfq hmq
        have z1 := cmpR_lt (ks.getD i 0) zr
        have z2 := cmpR_gt (ks.getD i 0) mr
        have hmem : ks.getD i 0 ∈ ks := by rw [hgi]; exact List.getElem_mem hik
        obtain ⟨F0, hF0⟩ : ∃ F, svF ks i = F := ⟨_, rfl⟩
        obtain ⟨e0, he0⟩ : ∃ e, ev ks i = e := ⟨_, rfl⟩
        have k5 := fun h => add_k (ks := ks) (i := i) hfq h
        have hrs := restA_succ ks i
        have hos := outA_succ ks i
        have hds := ordA_succ i
        have hrl := restA_len ks i
        have hol := outA_len ks i
        have hdl := ordA_len i
        have hrz := restA_zone ks i
        have hoz := outA_zone ks i
        have hdz := ordA_zone i
        obtain ⟨f, hf⟩ : ∃ f, ks.getD i 0 = f := ⟨_, rfl⟩
        obtain ⟨RA, hRA⟩ : ∃ e, restA ks i = e := ⟨_, rfl⟩
        obtain ⟨OA, hOA⟩ : ∃ e, outA ks i = e := ⟨_, rfl⟩
        obtain ⟨DA, hDA⟩ : ∃ e, ordA i = e := ⟨_, rfl⟩
        rw [hf] at hfq q1 r1 m1 m2 z1 z2 hmem hrs hos k5
        rw [hF0, he0] at k5 ⊢
        rw [hRA] at hrs hrl hrz ⊢
        rw [hOA] at hos hoz hol ⊢
        rw [hDA] at hds hdz hdl ⊢
        (repeat (first | refine awp_seq ?_ | refine awp_block ?_ | ((first | refine awp_runG [0, 2, 3, 4, 5, 6, 7, 8, 9, 10, 11, 12, 13, 15, 18, 26, 35, 36, 37, 38, 56, 92, 108, 114, 115, 116, 117] hX ?_ | refine awp_drawnG [0, 2, 3, 4, 5, 6, 7, 8, 9, 10, 11, 12, 13, 15, 18, 26, 35, 36, 37, 38, 56, 92, 108, 114, 115, 116, 117] hX mixed ?_ | refine awp_ret ?_ | refine awp_skip ?_ | refine awp_exit ?_); (simp [go_sem, hil, q1]; try (refine ⟨by kernel_rfl, ?_⟩)))))
        first | refine callK_intro (r1) rfl (by simp [go_sem]) rfl ?_ | refine callT_intro (r1) rfl (by simp [go_sem]) rfl ?_
        try (simp [go_sem, hil, q1]; try (refine ⟨by kernel_rfl, ?_⟩))
        first | refine callG_intro (fun hg => m1) rfl (by simp [go_sem]) rfl ?_ | refine callGT_intro (fun hg => m1) rfl (by simp [go_sem]) rfl ?_
        try (simp [go_sem, hil, q1]; try (refine ⟨by kernel_rfl, ?_⟩))
        first | refine callG_intro (fun hg => m2) rfl (by simp [go_sem]) rfl ?_ | refine callGT_intro (fun hg => m2) rfl (by simp [go_sem]) rfl ?_
        try (simp [go_sem, hil, q1]; try (refine ⟨by kernel_rfl, ?_⟩))
        refine awp_cond (b := decide (f < zr ∨ mr < f)) (by simp [go_sem, z1, z2]; try grind) (fun hd => ?_) (fun hd => ?_)
        · simp only [decide_eq_true_eq] at hd
          have e : V = .tup [.sl [], ii 1] := by rw [← hV]; exact if_pos (.inr (.inr ⟨f, hmem, by rw [hmr2, hzr2]; exact hd⟩))
          rw [e]
          (repeat (first | refine awp_seq ?_ | refine awp_block ?_ | ((first | refine awp_runG [0, 2, 3, 4, 5, 6, 7, 8, 9, 10, 11, 12, 13, 15, 18, 26, 35, 36, 37, 38, 56, 92, 108, 114, 115, 116, 117] hX ?_ | refine awp_drawnG [0, 2, 3, 4, 5, 6, 7, 8, 9, 10, 11, 12, 13, 15, 18, 26, 35, 36, 37, 38, 56, 92, 108, 114, 115, 116, 117] hX mixed ?_ | refine awp_ret ?_ | refine awp_skip ?_ | refine awp_exit ?_); (simp [go_sem]; try (refine ⟨by kernel_rfl, ?_⟩)))))
        · simp only [decide_eq_false_iff_not, not_or] at hd
          have hf0 : 0 ≤ f := by rw [hzr2]; exact Rat.not_lt.1 hd.1
          have hfm : f ≤ most := by rw [hmr2]; exact Rat.not_lt.1 hd.2
          obtain ⟨b1, b2⟩ := fl_bd (B := 4503599627370496) hf0 hfm
          have c1 := Floor_f f.num f.den (rf_q hfq)
          have c2 := Int_i (z := fl f) (by omega)
          have k3 := of_k e0 (p := fl f) (by omega)
          have k4 := sub_k e0 hfq hf0 b2
          have k5 := k5 hf0
          obtain ⟨F1, hF1⟩ : ∃ F, svF ks (i + 1) = F := ⟨_, rfl⟩
          obtain ⟨e1, he1⟩ : ∃ e, ev ks (i + 1) = e := ⟨_, rfl⟩
          rw [hF1, he1] at k5
          have hrn : nth (RA ++ [frq (rs f)]) i = frq (rs f) := nth_end hrl
          have hri : (i : Int) < (RA.length : Int) + 1 := by omega
          have hri2 : i < RA.length + 1 := by omega
          (repeat (first | refine awp_seq ?_ | refine awp_block ?_ | ((first | refine awp_runG [0, 2, 3, 4, 5, 6, 7, 8, 9, 10, 11, 12, 13, 15, 18, 26, 35, 36, 37, 38, 56, 92, 108, 114, 115, 116, 117] hX ?_ | refine awp_drawnG [0, 2, 3, 4, 5, 6, 7, 8, 9, 10, 11, 12, 13, 15, 18, 26, 35, 36, 37, 38, 56, 92, 108, 114, 115, 116, 117] hX mixed ?_ | refine awp_ret ?_ | refine awp_skip ?_ | refine awp_exit ?_); (simp [go_sem, hil, q1]; try (refine ⟨by kernel_rfl, ?_⟩)))))
          first | refine callK_intro (c1) rfl (by simp [go_sem]) rfl ?_ | refine callT_intro (c1) rfl (by simp [go_sem]) rfl ?_
          try (simp [go_sem]; try (refine ⟨by kernel_rfl, ?_⟩))
          first | refine callK_intro (c2) rfl (by simp [go_sem]) rfl ?_ | refine callT_intro (c2) rfl (by simp [go_sem]) rfl ?_
          try (simp [go_sem]; try (refine ⟨by kernel_rfl, ?_⟩))
          (repeat (first | refine awp_seq ?_ | refine awp_block ?_ | ((first | refine awp_runG [0, 2, 3, 4, 5, 6, 7, 8, 9, 10, 11, 12, 13, 15, 18, 26, 35, 36, 37, 38, 56, 92, 108, 114, 115, 116, 117] hX ?_ | refine awp_drawnG [0, 2, 3, 4, 5, 6, 7, 8, 9, 10, 11, 12, 13, 15, 18, 26, 35, 36, 37, 38, 56, 92, 108, 114, 115, 116, 117] hX mixed ?_ | refine awp_ret ?_ | refine awp_skip ?_ | refine awp_exit ?_); (simp [go_sem]; try (refine ⟨by kernel_rfl, ?_⟩)))))
          (repeat refine And.intro (by first | omega | (unfold maxLen; omega) | kernel_rfl | (refine ⟨by first | omega | (unfold maxLen; omega), by first | omega | (unfold maxLen; omega)⟩) | grind) ?_)
          (repeat (first | refine awp_seq ?_ | refine awp_block ?_ | ((first | refine awp_runG [0, 2, 3, 4, 5, 6, 7, 8, 9, 10, 11, 12, 13, 15, 18, 26, 35, 36, 37, 38, 56, 92, 108, 114, 115, 116, 117] hX ?_ | refine awp_drawnG [0, 2, 3, 4, 5, 6, 7, 8, 9, 10, 11, 12, 13, 15, 18, 26, 35, 36, 37, 38, 56, 92, 108, 114, 115, 116, 117] hX mixed ?_ | refine awp_ret ?_ | refine awp_skip ?_ | refine awp_exit ?_); (simp [go_sem, hil, q1]; try (refine ⟨by kernel_rfl, ?_⟩)))))
          first | refine callH_intro [0] (k3) (by simp [go_sem]) ?_ | refine callTQ_intro [0] (k3) (by simp [go_sem]) ?_ | refine callTE_intro [0] (k3) (by simp [go_sem]) ?_
          try (simp [go_sem]; try (refine ⟨by kernel_rfl, ?_⟩))
          first | refine callH_intro [0] (k4) (by simp [go_sem]) ?_ | refine callTQ_intro [0] (k4) (by simp [go_sem]) ?_ | refine callTE_intro [0] (k4) (by simp [go_sem]) ?_
          try (simp [go_sem]; try (refine ⟨by kernel_rfl, ?_⟩))
          (repeat refine And.intro (by first | omega | (unfold maxLen; omega) | kernel_rfl | (refine ⟨by first | omega | (unfold maxLen; omega), by first | omega | (unfold maxLen; omega)⟩) | grind) ?_)
          (repeat (first | refine awp_seq ?_ | refine awp_block ?_ | ((first | refine awp_runG [0, 2, 3, 4, 5, 6, 7, 8, 9, 10, 11, 12, 13, 15, 18, 26, 35, 36, 37, 38, 56, 92, 108, 114, 115, 116, 117] hX ?_ | refine awp_drawnG [0, 2, 3, 4, 5, 6, 7, 8, 9, 10, 11, 12, 13, 15, 18, 26, 35, 36, 37, 38, 56, 92, 108, 114, 115, 116, 117] hX mixed ?_ | refine awp_ret ?_ | refine awp_skip ?_ | refine awp_exit ?_); (simp [go_sem, hrn, hri, hri2]; try (refine ⟨by kernel_rfl, ?_⟩)))))
          first | refine callH_intro [0] (k5) (by simp [go_sem]) ?_ | refine callTQ_intro [0] (k5) (by simp [go_sem]) ?_ | refine callTE_intro [0] (k5) (by simp [go_sem]) ?_
          try (simp [go_sem]; try (refine ⟨by kernel_rfl, ?_⟩))
          (repeat refine And.intro (by first | omega | (unfold maxLen; omega) | kernel_rfl | (refine ⟨by first | omega | (unfold maxLen; omega), by first | omega | (unfold maxLen; omega)⟩) | grind) ?_)
          (repeat (first | refine awp_seq ?_ | refine awp_block ?_ | ((first | refine awp_runG [0, 2, 3, 4, 5, 6, 7, 8, 9, 10, 11, 12, 13, 15, 18, 26, 35, 36, 37, 38, 56, 92, 108, 114, 115, 116, 117] hX ?_ | refine awp_drawnG [0, 2, 3, 4, 5, 6, 7, 8, 9, 10, 11, 12, 13, 15, 18, 26, 35, 36, 37, 38, 56, 92, 108, 114, 115, 116, 117] hX mixed ?_ | refine awp_ret ?_ | refine awp_skip ?_ | refine awp_exit ?_); (simp [go_sem, wi]; try (refine ⟨by kernel_rfl, ?_⟩)))))
          refine ⟨i + 1, ⟨by omega, okTo_succ hp hf hf0 hfm⟩, by omega, ?_⟩
          · rw [hF1, he1, hrs, hos, hds]
            refine sub_of _ [.old 0 ⟨56, 1, [.agg [ii e1]]⟩, .old 1 ⟨41, 4, [fv F1]⟩, .old 2 ⟨41, 4, [frq zr]⟩, .old 3 ⟨41, 4, [frq mr]⟩, .old 4 ⟨24, 1, [.ow 5]⟩, .old 14 ⟨41, 4, RA ++ [frq (rs f)]⟩, .old 10 ⟨3, 1, OA ++ [ii (fl f)]⟩, .old 12 ⟨3, 1, DA ++ [ii (i : Int)]⟩] (by simp [go_sem, hrz, hoz, hdz]) ?_
            simp [go_sem]
      · have hin : i = ks.length := by omega
        rcases hT with rfl | ⟨x, T', rfl, hx⟩
        · simp at hb; omega
        · have q1 : nth (ks.map frq ++ fv x :: T') i = fv x := nth_end (by simp [hin])
          have hil : (i : Int) < (ks.length : Int) + ((T'.length : Int) + 1) := by simp at hb; omega
          have e : V = .tup [.sl [], ii 1] := by rw [← hV]; exact if_pos (.inr (.inl (by simp)))
          (repeat (first | refine awp_seq ?_ | refine awp_block ?_ | ((first | refine awp_runG [0, 2, 3, 4, 5, 6, 7, 8, 9, 10, 11, 12, 13, 15, 18, 26, 35, 36, 37, 38, 56, 92, 108, 114, 115, 116, 117] hX ?_ | refine awp_drawnG [0, 2, 3, 4, 5, 6, 7, 8, 9, 10, 11, 12, 13, 15, 18, 26, 35, 36, 37, 38, 56, 92, 108, 114, 115, 116, 117] hX mixed ?_ | refine awp_ret ?_ | refine awp_skip ?_ | refine awp_exit ?_); (simp [go_sem, hil, q1]; try (refine ⟨by kernel_rfl, ?_⟩)))))
          first | refine callK_intro (hx) rfl (by simp [go_sem]) rfl ?_ | refine callT_intro (hx) rfl (by simp [go_sem]) rfl ?_
          try (simp [go_sem, hil, q1]; try (refine ⟨by kernel_rfl, ?_⟩))
          try first | refine callG_skip rfl ?_ | refine callGT_skip rfl ?_
          try (simp [go_sem, hil, q1]; try (refine ⟨by kernel_rfl, ?_⟩))
          try first | refine callG_skip rfl ?_ | refine callGT_skip rfl ?_
          try (simp [go_sem, hil, q1]; try (refine ⟨by kernel_rfl, ?_⟩))
          refine awp_cond (b := true) (by simp [go_sem]) (fun _ => ?_) (fun h => by cases h)
          rw [e]
          (repeat (first | refine awp_seq ?_ | refine awp_block ?_ | ((first | refine awp_runG [0, 2, 3, 4, 5, 6, 7, 8, 9, 10, 11, 12, 13, 15, 18, 26, 35, 36, 37, 38, 56, 92, 108, 114, 115, 116, 117] hX ?_ | refine awp_drawnG [0, 2, 3, 4, 5, 6, 7, 8, 9, 10, 11, 12, 13, 15, 18, 26, 35, 36, 37, 38, 56, 92, 108, 114, 115, 116, 117] hX mixed ?_ | refine awp_ret ?_ | refine awp_skip ?_ | refine awp_exit ?_); (simp [go_sem]; try (refine ⟨by kernel_rfl, ?_⟩)))))
    · simp only [decide_eq_false_iff_not] at hb
      have hin : i = ks.length := by omega
      have hT0 : T = [] := List.eq_nil_of_length_eq_zero (by omega)
      subst hin hT0
      have hcB : ¬ ((ks.length + ([] : List AV).length = 0 ∨ 12 < ks.length + ([] : List AV).length) ∨ cArg ks []) := fun h => by
        rcases h with h | h | ⟨k, hk, h⟩
        · exact hlen h
        · exact h rfl
        · obtain ⟨j, hj, rfl⟩ := List.getElem_of_mem hk
          have := hp j hj
          rw [List.getD_eq_getElem?_getD, List.getElem?_eq_getElem hj] at this
          have h1 : 0 ≤ ks[j] := this.1
          have h2 : ks[j] ≤ most := this.2
          rcases h with h | h
          · exact absurd h (Rat.not_lt.2 h1)
          · exact absurd h (Rat.not_lt.2 h2)
      by_cases hs : okS ks ks.length
      · have e1 : svF ks ks.length = frR (rsum ks ks.length) := if_pos hs
        have e2 : ev ks ks.length = 0 := if_pos hs
        have hsq := rsum_rq hs
        obtain ⟨b1, b2⟩ := rsum_bd ks ks.length
        obtain ⟨b3, b4⟩ := fl_bd (B := (ks.length : Int)) b1 b2
        have hV2 : V = if rsum ks ks.length = ((fl (rsum ks ks.length) : Int) : Rat) then .tup [il (coinL ks), ii 0] else .tup [.sl [], ii 1] := by
          rw [← hV]; unfold coinV; rw [if_neg hcB, if_pos hs]
        have hcl : coinL ks = bumps (ks.map fl) ((srt (B.kf (ks.map rs)) (idxI ks.length)).take (fl (rsum ks ks.length)).toNat) := rfl
        have c1 := Floor_f (rsum ks ks.length).num (rsum ks ks.length).den (rf_q hsq)
        have c2 := Int_i (z := fl (rsum ks ks.length)) (by omega)
        have k3 := of_k 0 (p := fl (rsum ks ks.length)) (by omega)
        have hlq : rq ((fl (rsum ks ks.length) : Int) : Rat) := by
          have := of_rq (p := fl (rsum ks ks.length)) (q := 1) (by omega) (by decide) (by decide)
          rwa [cast1] at this
        have m1 := Compare_q hsq hlq
        have z1 := cmpR_eq (rsum ks ks.length) ((fl (rsum ks ks.length) : Int) : Rat)
        have hrz := restA_zone ks ks.length
        have hoz := outA_zone ks ks.length
        have hdz := ordA_zone ks.length
        have hrf : restA ks ks.length = (ks.map rs).map frq := restA_full ks
        have hof := outA_full ks
        have hdf := ordA_full ks.length
        have hfq : ∀ v ∈ ks.map fl, 0 ≤ v ∧ v ≤ 4503599627370496 := fun v hv => by
          obtain ⟨k, hk, rfl⟩ := List.mem_map.1 hv
          obtain ⟨j, hj, rfl⟩ := List.getElem_of_mem hk
          have := hp j hj
          rw [List.getD_eq_getElem?_getD, List.getElem?_eq_getElem hj] at this
          exact fl_bd this.1 this.2
        have hrl : (ks.map rs).length = ks.length := by simp
        have hS := B.sortS_m (idxI ks.length) (ks.map rs) (idxI_nodup _) (fun i j hi hj hij => idxI_ord _ i j hi hj hij) (fun x hx => by rw [hrl]; exact idxI_mem.1 hx) (by rw [idxI_len]; omega) (by rw [hrl]; omega) (fun r hr => by
          obtain ⟨k, hk, rfl⟩ := List.mem_map.1 hr
          obtain ⟨j, hj, rfl⟩ := List.getElem_of_mem hk
          have := hp j hj
          rw [List.getD_eq_getElem?_getD, List.getElem?_eq_getElem hj] at this
          exact rs_rq (hq _ hk) this.1)
        obtain ⟨O, hO⟩ : ∃ O, srt (B.kf (ks.map rs)) (idxI ks.length) = O := ⟨_, rfl⟩
        rw [hO] at hS hcl
        have hOl : O.length = ks.length := by rw [← hO, srt_len, idxI_len]
        have hOm : ∀ x ∈ O, 0 ≤ x ∧ x < ks.length := fun x hx => by
          rw [← hO] at hx
          exact idxI_mem.1 ((srt_perm _ _).mem_iff.1 hx)
        have hQl : (ks.map fl).length = ks.length := by simp
        obtain ⟨m, hm⟩ : ∃ m : Nat, (m : Int) = fl (rsum ks ks.length) := ⟨(fl (rsum ks ks.length)).toNat, by omega⟩
        have hmt : (fl (rsum ks ks.length)).toNat = m := by omega
        rw [hmt] at hcl
        rw [← hm] at c2 k3 m1 z1 hV2 b3 b4
        have c1 : Means false Tryz.prog 24 [frq (rsum ks ks.length)] (bigZ (m : Int)) := by rw [hm]; exact c1
        rw [e1, e2, hrf, hof, hdf]
        rw [hrf] at hrz
        rw [hof] at hoz
        rw [hdf] at hdz
        generalize ks.map rs = R at *
        generalize ks.map fl = Q at *
        generalize idxI ks.length = I at *
        generalize rsum ks ks.length = su at *
        (repeat (first | refine awp_seq ?_ | refine awp_block ?_ | ((first | refine awp_runG [0, 2, 3, 4, 5, 6, 7, 8, 9, 10, 11, 12, 13, 15, 18, 26, 35, 36, 37, 38, 56, 92, 108, 114, 115, 116, 117] hX ?_ | refine awp_drawnG [0, 2, 3, 4, 5, 6, 7, 8, 9, 10, 11, 12, 13, 15, 18, 26, 35, 36, 37, 38, 56, 92, 108, 114, 115, 116, 117] hX mixed ?_ | refine awp_ret ?_ | refine awp_skip ?_ | refine awp_exit ?_); (simp [go_sem]; try (refine ⟨by kernel_rfl, ?_⟩)))))
        refine awp_cond (b := false) (by simp [go_sem]) (fun h => by cases h) (fun _ => ?_)
        (repeat (first | refine awp_seq ?_ | refine awp_block ?_ | ((first | refine awp_runG [0, 2, 3, 4, 5, 6, 7, 8, 9, 10, 11, 12, 13, 15, 18, 26, 35, 36, 37, 38, 56, 92, 108, 114, 115, 116, 117] hX ?_ | refine awp_drawnG [0, 2, 3, 4, 5, 6, 7, 8, 9, 10, 11, 12, 13, 15, 18, 26, 35, 36, 37, 38, 56, 92, 108, 114, 115, 116, 117] hX mixed ?_ | refine awp_ret ?_ | refine awp_skip ?_ | refine awp_exit ?_); (simp [go_sem]; try (refine ⟨by kernel_rfl, ?_⟩)))))
        first | refine callK_intro (c1) rfl (by simp [go_sem]) rfl ?_ | refine callT_intro (c1) rfl (by simp [go_sem]) rfl ?_
        try (simp [go_sem]; try (refine ⟨by kernel_rfl, ?_⟩))
        first | refine callK_intro (c2) rfl (by simp [go_sem]) rfl ?_ | refine callT_intro (c2) rfl (by simp [go_sem]) rfl ?_
        try (simp [go_sem]; try (refine ⟨by kernel_rfl, ?_⟩))
        (repeat (first | refine awp_seq ?_ | refine awp_block ?_ | ((first | refine awp_runG [0, 2, 3, 4, 5, 6, 7, 8, 9, 10, 11, 12, 13, 15, 18, 26, 35, 36, 37, 38, 56, 92, 108, 114, 115, 116, 117] hX ?_ | refine awp_drawnG [0, 2, 3, 4, 5, 6, 7, 8, 9, 10, 11, 12, 13, 15, 18, 26, 35, 36, 37, 38, 56, 92, 108, 114, 115, 116, 117] hX mixed ?_ | refine awp_ret ?_ | refine awp_skip ?_ | refine awp_exit ?_); (simp [go_sem]; try (refine ⟨by kernel_rfl, ?_⟩)))))
        first | refine callH_intro [0] (k3) (by simp [go_sem]) ?_ | refine callTQ_intro [0] (k3) (by simp [go_sem]) ?_ | refine callTE_intro [0] (k3) (by simp [go_sem]) ?_
        try (simp [go_sem]; try (refine ⟨by kernel_rfl, ?_⟩))
        (repeat (first | refine awp_seq ?_ | refine awp_block ?_ | ((first | refine awp_runG [0, 2, 3, 4, 5, 6, 7, 8, 9, 10, 11, 12, 13, 15, 18, 26, 35, 36, 37, 38, 56, 92, 108, 114, 115, 116, 117] hX ?_ | refine awp_drawnG [0, 2, 3, 4, 5, 6, 7, 8, 9, 10, 11, 12, 13, 15, 18, 26, 35, 36, 37, 38, 56, 92, 108, 114, 115, 116, 117] hX mixed ?_ | refine awp_ret ?_ | refine awp_skip ?_ | refine awp_exit ?_); (simp [go_sem]; try (refine ⟨by kernel_rfl, ?_⟩)))))
        first | refine callK_intro (m1) rfl (by simp [go_sem]) rfl ?_ | refine callT_intro (m1) rfl (by simp [go_sem]) rfl ?_
        try (simp [go_sem]; try (refine ⟨by kernel_rfl, ?_⟩))
        refine awp_cond (b := !decide (su = (((m : Nat) : Int) : Rat))) (by simp [go_sem, z1, bne]; try grind) (fun hd => ?_) (fun hd => ?_)
        · have e : V = .tup [.sl [], ii 1] := by rw [hV2]; exact if_neg (by simpa using hd)
          rw [e]
          (repeat (first | refine awp_seq ?_ | refine awp_block ?_ | ((first | refine awp_runG [0, 2, 3, 4, 5, 6, 7, 8, 9, 10, 11, 12, 13, 15, 18, 26, 35, 36, 37, 38, 56, 92, 108, 114, 115, 116, 117] hX ?_ | refine awp_drawnG [0, 2, 3, 4, 5, 6, 7, 8, 9, 10, 11, 12, 13, 15, 18, 26, 35, 36, 37, 38, 56, 92, 108, 114, 115, 116, 117] hX mixed ?_ | refine awp_ret ?_ | refine awp_skip ?_ | refine awp_exit ?_); (simp [go_sem]; try (refine ⟨by kernel_rfl, ?_⟩)))))
        simp only [Bool.not_eq_false', decide_eq_true_eq] at hd
        have e : V = .tup [il (coinL ks), ii 0] := by rw [hV2]; exact if_pos hd
        refine awp_sub (sub_of [(8, .ow 2), (9, .ow 1), (10, .el 0 1 0 0), (15, ii (m : Int))] [.old 4 ⟨24, 1, [.sl (R.map frq)]⟩, .old 7 ⟨3, 1, I.map ii⟩, .old 6 ⟨3, 1, Q.map ii⟩] (by simp [go_sem, hrz]) (by simp [go_sem])) ?_
        simp only [List.map_cons, List.map_nil, Src.cell]
        have hmO : m ≤ O.length := by omega
        have hmO2 : (m : Int) ≤ (O.length : Int) := by omega
        (repeat (first | refine awp_seq ?_ | refine awp_block ?_ | ((first | refine awp_runG [0, 2, 3, 4, 5, 6, 7, 8, 9, 10, 11, 12, 13, 15, 18, 26, 35, 36, 37, 38, 56, 92, 108, 114, 115, 116, 117] hX ?_ | refine awp_drawnG [0, 2, 3, 4, 5, 6, 7, 8, 9, 10, 11, 12, 13, 15, 18, 26, 35, 36, 37, 38, 56, 92, 108, 114, 115, 116, 117] hX mixed ?_ | refine awp_ret ?_ | refine awp_skip ?_ | refine awp_exit ?_); (simp [go_sem]; try (refine ⟨by kernel_rfl, ?_⟩)))))
        first | refine callH_intro [1, 0] (hS) (by simp [go_sem]) ?_ | refine callTQ_intro [1, 0] (hS) (by simp [go_sem]) ?_ | refine callTE_intro [1, 0] (hS) (by simp [go_sem]) ?_
        try (simp [go_sem]; try (refine ⟨by kernel_rfl, ?_⟩))
        (repeat (first | refine awp_seq ?_ | refine awp_block ?_ | ((first | refine awp_runG [0, 2, 3, 4, 5, 6, 7, 8, 9, 10, 11, 12, 13, 15, 18, 26, 35, 36, 37, 38, 56, 92, 108, 114, 115, 116, 117] hX ?_ | refine awp_drawnG [0, 2, 3, 4, 5, 6, 7, 8, 9, 10, 11, 12, 13, 15, 18, 26, 35, 36, 37, 38, 56, 92, 108, 114, 115, 116, 117] hX mixed ?_ | refine awp_ret ?_ | refine awp_skip ?_ | refine awp_exit ?_); (simp [go_sem, hmO, hmO2]; try (refine ⟨by kernel_rfl, ?_⟩)))))
        refine awp_loop (fun j : Nat => ⟨mkE [(8, .ow 0), (114, .wn 1 1 0 m), (115, ii m), (116, ii j)], [rowI (bumps Q (O.take j)), rowI O]⟩) (fun j => j ≤ m) (fun j => m - j) 0 ?_ ?_ ?_
        · refine sub_of _ [.old 2 ⟨3, 1, Q.map ii⟩, .old 1 ⟨3, 1, O.map ii⟩] (by simp [go_sem, bumps]) ?_
          simp [go_sem, bumps]
        · omega
        · intro j hj
          have hbl := bumps_len (O.take j) Q
          (repeat (first | refine awp_seq ?_ | refine awp_block ?_ | ((first | refine awp_runG [0, 2, 3, 4, 5, 6, 7, 8, 9, 10, 11, 12, 13, 15, 18, 26, 35, 36, 37, 38, 56, 92, 108, 114, 115, 116, 117] hX ?_ | refine awp_drawnG [0, 2, 3, 4, 5, 6, 7, 8, 9, 10, 11, 12, 13, 15, 18, 26, 35, 36, 37, 38, 56, 92, 108, 114, 115, 116, 117] hX mixed ?_ | refine awp_ret ?_ | refine awp_skip ?_ | refine awp_exit ?_); (simp [go_sem]; try (refine ⟨by kernel_rfl, ?_⟩)))))
          refine awp_cond (b := decide (j < m)) (by simp [go_sem]) (fun hc => ?_) (fun hc => ?_)
          · simp at hc
            have hjO : j < O.length := by omega
            have hx := hOm O[j] (List.getElem_mem hjO)
            have hbs := bumps_succ (L := Q) hjO
            obtain ⟨p, hp⟩ : ∃ p : Nat, O[j] = (p : Int) := ⟨O[j].toNat, by omega⟩
            obtain ⟨B, hB⟩ : ∃ B, bumps Q (O.take j) = B := ⟨_, rfl⟩
            rw [hp] at hx hbs
            have hbd := bumps_bd (O.take j) hfq
            rw [hB] at hbl hbs hbd ⊢
            have hpB : p < B.length := by omega
            have hbd : 0 ≤ B[p] ∧ B[p] ≤ 4503599627370496 + 12 := by
              have := hbd B[p] (List.getElem_mem _)
              rw [List.length_take] at this
              omega
            have hbe : bump B (p : Int) = B.set p (B[p] + 1) := by
              unfold bump
              rw [Int.toNat_natCast, List.getD_eq_getElem?_getD, List.getElem?_eq_getElem hpB]; rfl
            (repeat (first | refine awp_seq ?_ | refine awp_block ?_ | ((first | refine awp_runG [0, 2, 3, 4, 5, 6, 7, 8, 9, 10, 11, 12, 13, 15, 18, 26, 35, 36, 37, 38, 56, 92, 108, 114, 115, 116, 117] hX ?_ | refine awp_drawnG [0, 2, 3, 4, 5, 6, 7, 8, 9, 10, 11, 12, 13, 15, 18, 26, 35, 36, 37, 38, 56, 92, 108, 114, 115, 116, 117] hX mixed ?_ | refine awp_ret ?_ | refine awp_skip ?_ | refine awp_exit ?_); (simp [go_sem, hc, hjO, hp, hpB]; (try simp (disch := omega) only [w64, td, tm]); try (refine ⟨by kernel_rfl, ?_⟩)))))
            (repeat refine And.intro (by first | omega | (unfold maxLen; omega) | kernel_rfl | (refine ⟨by first | omega | (unfold maxLen; omega), by first | omega | (unfold maxLen; omega)⟩) | grind) ?_)
            (repeat (first | refine awp_seq ?_ | refine awp_block ?_ | ((first | refine awp_runG [0, 2, 3, 4, 5, 6, 7, 8, 9, 10, 11, 12, 13, 15, 18, 26, 35, 36, 37, 38, 56, 92, 108, 114, 115, 116, 117] hX ?_ | refine awp_drawnG [0, 2, 3, 4, 5, 6, 7, 8, 9, 10, 11, 12, 13, 15, 18, 26, 35, 36, 37, 38, 56, 92, 108, 114, 115, 116, 117] hX mixed ?_ | refine awp_ret ?_ | refine awp_skip ?_ | refine awp_exit ?_); (simp [go_sem, hc, hjO, hp, hpB]; (try simp (disch := omega) only [w64, td, tm]); try (refine ⟨by kernel_rfl, ?_⟩)))))
            refine ⟨j + 1, by omega, by omega, ?_⟩
            rw [hbs, hbe]
            refine sub_of _ [.old 0 ⟨3, 1, (B.set p (B[p] + 1)).map ii⟩, .old 1 ⟨3, 1, O.map ii⟩] (by simp [go_sem]) ?_
            simp [go_sem]
            try omega
          · have : j = m := by simp at hc; omega
            subst this
            (repeat (first | refine awp_seq ?_ | refine awp_block ?_ | ((first | refine awp_runG [0, 2, 3, 4, 5, 6, 7, 8, 9, 10, 11, 12, 13, 15, 18, 26, 35, 36, 37, 38, 56, 92, 108, 114, 115, 116, 117] hX ?_ | refine awp_drawnG [0, 2, 3, 4, 5, 6, 7, 8, 9, 10, 11, 12, 13, 15, 18, 26, 35, 36, 37, 38, 56, 92, 108, 114, 115, 116, 117] hX mixed ?_ | refine awp_ret ?_ | refine awp_skip ?_ | refine awp_exit ?_); (simp [go_sem]; try (refine ⟨by kernel_rfl, ?_⟩)))))
            rw [e, hcl]
            (repeat (first | refine awp_seq ?_ | refine awp_block ?_ | ((first | refine awp_runG [0, 2, 3, 4, 5, 6, 7, 8, 9, 10, 11, 12, 13, 15, 18, 26, 35, 36, 37, 38, 56, 92, 108, 114, 115, 116, 117] hX ?_ | refine awp_drawnG [0, 2, 3, 4, 5, 6, 7, 8, 9, 10, 11, 12, 13, 15, 18, 26, 35, 36, 37, 38, 56, 92, 108, 114, 115, 116, 117] hX mixed ?_ | refine awp_ret ?_ | refine awp_skip ?_ | refine awp_exit ?_); (simp [go_sem]; try (refine ⟨by kernel_rfl, ?_⟩)))))
      · have e2 : ev ks ks.length = 6 := if_neg hs
        have e : V = .tup [.sl [], ii 6] := by
          rw [← hV]; unfold coinV
          rw [if_neg (hcB), if_neg hs]
        rw [e2, e]
        (repeat (first | refine awp_seq ?_ | refine awp_block ?_ | ((first | refine awp_runG [0, 2, 3, 4, 5, 6, 7, 8, 9, 10, 11, 12, 13, 15, 18, 26, 35, 36, 37, 38, 56, 92, 108, 114, 115, 116, 117] hX ?_ | refine awp_drawnG [0, 2, 3, 4, 5, 6, 7, 8, 9, 10, 11, 12, 13, 15, 18, 26, 35, 36, 37, 38, 56, 92, 108, 114, 115, 116, 117] hX mixed ?_ | refine awp_ret ?_ | refine awp_skip ?_ | refine awp_exit ?_); (simp [go_sem]; try (refine ⟨by kernel_rfl, ?_⟩)))))
        refine awp_cond (b := true) (by simp [go_sem]) (fun _ => ?_) (fun h => by cases h)
        (repeat (first | refine awp_seq ?_ | refine awp_block ?_ | ((first | refine awp_runG [0, 2, 3, 4, 5, 6, 7, 8, 9, 10, 11, 12, 13, 15, 18, 26, 35, 36, 37, 38, 56, 92, 108, 114, 115, 116, 117] hX ?_ | refine awp_drawnG [0, 2, 3, 4, 5, 6, 7, 8, 9, 10, 11, 12, 13, 15, 18, 26, 35, 36, 37, 38, 56, 92, 108, 114, 115, 116, 117] hX mixed ?_ | refine awp_ret ?_ | refine awp_skip ?_ | refine awp_exit ?_); (simp [go_sem]; try (refine ⟨by kernel_rfl, ?_⟩)))))
end Go.Proofs.YthibhamepjhfjaaGreatDoor

namespace Go.Proofs.YthibhamepjhfjaaGreatDoor
open Go.RowKit Go.Ab
attribute [local irreducible] AWP Go.Ab.Sub Means MeansH MeansX CallK CallG CallT CallGT CallU
def allQ (own : List Int) (S : List (List Int)) : List Rat := (List.range own.length).map (allX own S)
def keptQ (own : List Int) (S : List (List Int)) : List Rat := (List.range own.length).map (keptX own S)
theorem allQ_len (own : List Int) (S : List (List Int)) : (allQ own S).length = own.length := by simp [allQ]
theorem keptQ_len (own : List Int) (S : List (List Int)) : (keptQ own S).length = own.length := by simp [keptQ]
theorem allQ_at {own : List Int} {S : List (List Int)} {k : Nat} (h : k < own.length) : (allQ own S).getD k 0 = allX own S k := by
  simp [allQ, List.getD_eq_getElem?_getD, h]
theorem keptQ_at {own : List Int} {S : List (List Int)} {k : Nat} (h : k < own.length) : (keptQ own S).getD k 0 = keptX own S k := by
  simp [keptQ, List.getD_eq_getElem?_getD, h]
variable {own : List Int} {S : List (List Int)}
abbrev partR (S : List (List Int)) (k : Nat) : Rat := ((1000 - sumI (S.getD k []) : Int) : Rat) / ((1000 : Int) : Rat)
theorem part_bd (h : PV own S) {i : Nat} (hi : i < own.length) : 0 < 1000 - sumI (S.getD i []) ∧ 1000 - sumI (S.getD i []) ≤ 1000 := by
  have hS : i < S.length := by rw [h.len]; exact hi
  have hg : S.getD i [] = S[i] := by rw [List.getD_eq_getElem?_getD, List.getElem?_eq_getElem hS]; rfl
  have hpr := PR_row h.toPR (List.getElem_mem hS)
  have hsb := csum_bd S[i] S[i].length hpr.2
  rw [List.take_length] at hsb
  have hlt := h.lt S[i] (List.getElem_mem hS)
  rw [hg]; omega
theorem part_bt (h : PV own S) {i : Nat} (hi : i < own.length) : bt 10 (partR S i).num ∧ bt 10 (partR S i).den := by
  have := part_bd h hi
  exact of_bt (by decide) (bt_1000 (by omega)) (bt_1000 (by decide))
theorem keptok (h : PV own S) (h6 : own.length ≤ 6) {k : Nat} (hk : k < own.length) : okMul (allX own S k) (partR S k) := by
  obtain ⟨h1, h2⟩ := all_sz h h6 hk
  obtain ⟨h3, h4⟩ := part_bt h hk
  exact okMul_bt h1 h2 h3 h4 (by omega) (by omega)
theorem kept_sz (h : PV own S) (h6 : own.length ≤ 6) {k : Nat} (hk : k < own.length) : bt 320 (keptX own S k).num ∧ bt 80 (keptX own S k).den := by
  obtain ⟨h1, h2⟩ := all_sz h h6 hk
  obtain ⟨h3, h4⟩ := part_bt h hk
  exact mul_bt h1 h2 h3 h4
theorem pool_fit (h : PV own S) (h6 : own.length ≤ 6) : Fit (poolM own S) own.length := fit_of (pool_inv h) (pool_stg h.toPR) (.inl h6)
theorem bt_rq {k m : Nat} {r : Rat} (h : bt k r.num ∧ bt m r.den) (hk : k ≤ 1199) (hm : m ≤ 1199) : rq r := rq_bt h.1 h.2 hk hm
theorem allQ_mem (h : PV own S) (h6 : own.length ≤ 6) : ∀ x ∈ allQ own S, bt 310 x.num ∧ bt 70 x.den := fun x hx => by
  obtain ⟨k, hk, rfl⟩ := List.mem_map.1 hx
  exact all_sz h h6 (by simpa using hk)
theorem keptQ_mem (h : PV own S) (h6 : own.length ≤ 6) : ∀ x ∈ keptQ own S, bt 320 x.num ∧ bt 80 x.den := fun x hx => by
  obtain ⟨k, hk, rfl⟩ := List.mem_map.1 hx
  exact kept_sz h h6 (by simpa using hk)
theorem Solve_q (h : PV own S) (h6 : own.length ≤ 6) : Means false Tryz.prog 10 [il own, ill S] (.tup [fql (allQ own S), fql (keptQ own S), ii 0]) := by
  have := Solve_m own S h (pool_fit h h6) fun k hk => keptok h h6 hk
  have e1 : (allQ own S).map frq = allL own S := by unfold allQ; rw [List.map_map]; rfl
  have e2 : (keptQ own S).map frq = keptL own S := by unfold keptQ; rw [List.map_map]; rfl
  unfold fql
  rw [e1, e2]; exact this
theorem Solve_bad (own : List Int) (S : List (List Int)) (hl : own.length ≤ 9223372036854775807) (hS : S.length ≤ 9223372036854775807) (hr : ∀ l ∈ S, l.length ≤ 9223372036854775807) (hb : badP own S ≠ 0) : Means false Tryz.prog 10 [il own, ill S] (.tup [.sl [], .sl [], ii (badP own S)]) := by
  have c1 := solvable_m own S hl hS hr
  generalize badP own S = e at *
  refine means_fn false 60 [.tmp 4, .tmp 5, .tmp 6] Tryz.func10 rfl rfl rfl (by simp) (by decide) rfl fun X hX => ?_
  (repeat (first | refine awp_seq ?_ | refine awp_block ?_ | ((first | refine awp_runG [0, 1, 4, 5, 6, 7, 8, 9, 10, 11, 12, 17, 27, 28, 29, 30, 53] hX ?_ | refine awp_drawnG [0, 1, 4, 5, 6, 7, 8, 9, 10, 11, 12, 17, 27, 28, 29, 30, 53] hX mixed ?_ | refine awp_ret ?_ | refine awp_skip ?_ | refine awp_exit ?_); (simp [go_sem]; try (refine ⟨by kernel_rfl, ?_⟩)))))
  first | refine callK_intro (c1) rfl (by simp [go_sem]) rfl ?_ | refine callT_intro (c1) rfl (by simp [go_sem]) rfl ?_
  try (simp [go_sem]; try (refine ⟨by kernel_rfl, ?_⟩))
  (repeat (first | refine awp_seq ?_ | refine awp_block ?_ | ((first | refine awp_runG [0, 1, 4, 5, 6, 7, 8, 9, 10, 11, 12, 17, 27, 28, 29, 30, 53] hX ?_ | refine awp_drawnG [0, 1, 4, 5, 6, 7, 8, 9, 10, 11, 12, 17, 27, 28, 29, 30, 53] hX mixed ?_ | refine awp_ret ?_ | refine awp_skip ?_ | refine awp_exit ?_); (simp [go_sem]; try (refine ⟨by kernel_rfl, ?_⟩)))))
  refine awp_cond (b := true) (by simp [go_sem, hb]) (fun _ => ?_) (fun h => by cases h)
  (repeat (first | refine awp_seq ?_ | refine awp_block ?_ | ((first | refine awp_runG [0, 1, 4, 5, 6, 7, 8, 9, 10, 11, 12, 17, 27, 28, 29, 30, 53] hX ?_ | refine awp_drawnG [0, 1, 4, 5, 6, 7, 8, 9, 10, 11, 12, 17, 27, 28, 29, 30, 53] hX mixed ?_ | refine awp_ret ?_ | refine awp_skip ?_ | refine awp_exit ?_); (simp [go_sem]; try (refine ⟨by kernel_rfl, ?_⟩)))))
theorem all_check (h : PV own S) : chkQ own S (allQ own S) (keptQ own S) := fun i hi => by
  rw [allQ_at hi, keptQ_at hi]
  refine ⟨?_, rfl⟩
  rw [all_eq h hi]
  unfold psum
  congr 1
  exact sumR_congr fun t ht => by rw [allQ_at ht]; rfl
theorem rs_bt {r : Rat} {m : Nat} (h0 : 0 ≤ r) (hm : bt m r.den) : bt m (rs r).num ∧ bt m (rs r).den := by
  have hd : 0 < (r.den : Int) := by have := r.den_pos; omega
  have e : rs r * ((r.den : Int) : Rat) = ((r.num % (r.den : Int) : Int) : Rat) := by
    have h1 : (r.num % (r.den : Int) : Int) = r.num - fl r * (r.den : Int) := by unfold fl; rw [Int.emod_def, Int.mul_comm]
    rw [h1, Rat.intCast_sub, Rat.intCast_mul, num_den r]
    unfold rs; grind
  refine low_bt (by omega) e ?_ hm
  have h1 := Int.emod_nonneg r.num (show (r.den : Int) ≠ 0 by omega)
  have h2 := Int.emod_lt_of_pos r.num hd
  unfold bt at *
  omega
theorem rsum_bt {ks : List Rat} {m : Nat} (h : ∀ k ∈ ks, 0 ≤ k ∧ bt m k.den) : ∀ i, i ≤ ks.length → bt ((m + 1) * i) (rsum ks i).num ∧ bt (m * i) (rsum ks i).den
  | 0, _ => ⟨by show bt _ ((0 : Rat)).num; unfold bt; simp, by show bt _ ((((0 : Rat)).den : Nat) : Int); unfold bt; simp⟩
  | i + 1, hi => by
    obtain ⟨h1, h2⟩ := rsum_bt h i (by omega)
    have hg : ks.getD i 0 = ks[i] := by rw [List.getD_eq_getElem?_getD, List.getElem?_eq_getElem (by omega)]; rfl
    obtain ⟨h3, h4⟩ := h ks[i] (List.getElem_mem _)
    obtain ⟨h5, h6⟩ := rs_bt h3 h4
    rw [rsum_succ, hg]
    have := add_bt (c := (m + 1) * i + m) h1 h2 h5 h6 (by omega) (by rw [Nat.add_mul]; omega)
    refine ⟨?_, ?_⟩
    · have e : (m + 1) * i + m + 1 = (m + 1) * (i + 1) := by rw [Nat.mul_add]; omega
      rw [← e]; exact this.1
    · rw [Nat.mul_add, Nat.mul_one]; exact this.2
theorem okS_6 {ks : List Rat} (h : ∀ k ∈ ks, 0 ≤ k ∧ bt 80 k.den) (hl : ks.length ≤ 7) : okS ks ks.length := fun j hj => by
  obtain ⟨h1, h2⟩ := rsum_bt h j (by omega)
  have hg : ks.getD j 0 = ks[j] := by rw [List.getD_eq_getElem?_getD, List.getElem?_eq_getElem (by omega)]; rfl
  obtain ⟨h3, h4⟩ := h ks[j] (List.getElem_mem _)
  obtain ⟨h5, h6⟩ := rs_bt h3 h4
  rw [hg]
  exact okAdd_bt h1 h2 h5 h6 (by omega) (by omega) (by omega)
theorem Coins_t {ks : List Rat} (h : ∀ k ∈ ks, (0 ≤ k ∧ k ≤ most) ∧ bt 320 k.num ∧ bt 80 k.den) (h0 : 0 < ks.length) (hl : ks.length ≤ 7) (hs : rsum ks ks.length = ((fl (rsum ks ks.length) : Int) : Rat)) : Means false Tryz.prog 12 [fql ks] (.tup [il (coinL ks), ii 0]) := by
  have hc := Coins_q ks [] (fun k hk => bt_rq (h k hk).2 (by omega) (by omega)) (.inl rfl) (by simp; omega)
  rw [List.append_nil] at hc
  have e : coinV ks [] = .tup [il (coinL ks), ii 0] := by
    unfold coinV
    rw [if_neg, if_pos (okS_6 (fun k hk => ⟨(h k hk).1.1, (h k hk).2.2⟩) hl), if_pos hs]
    rintro (h1 | h1 | ⟨k, hk, h1 | h1⟩)
    · simp only [List.length_nil] at h1; omega
    · exact h1 rfl
    · exact absurd h1 (Rat.not_lt.2 (h k hk).1.1)
    · exact absurd h1 (Rat.not_lt.2 (h k hk).1.2)
  rwa [e] at hc
end Go.Proofs.YthibhamepjhfjaaGreatDoor

namespace Go.Proofs.YthibhamepjhfjaaGreatDoor
open Go.RowKit Go.Ab
theorem meansZ_h {P : Program} {f : FuncId} {fr : Bool} {H : List Cell} {largs args2 : List AV} {rv : Value} (l : List Nat) (h : Means fr P f args2 (.v rv)) (hf : frzOK H l) (ha : largs.map (argA (frzRows H l)) = args2) (ho : args2.all AV.argOK = true) : MeansH P f H largs (.v rv) H := by
  subst ha
  intro w M loc vs hM hgl hH hl hvs
  let X : Ctx := ⟨w, M, 0, blks H loc, loc, hgl, fun p hp hb => blks_away hH hb (hgl.1 p hp).1, fun g hg hb => blks_away hH hb (hgl.2 g hg).1⟩
  let a0 : Act := { tmps := #[], defers := [] }
  have hrr : RR X M loc ⟨argE 0 [], H⟩ a0 w := by
    refine ⟨fun s => ?_, Nat.zero_le _, rfl, rfl, fun id o ho => (hH.obj id o ho).imp fun b hb => .inr hb, hH.sep, fun id m hm => (hH.mobj id m hm).imp fun b hb => .inr hb, hH.msep, ⟨rfl, rfl, rfl, Nat.le_refl _, fun _ _ _ => rfl⟩, fun b hb => ⟨hM b hb, .inl hb⟩, fun b hb => hb, fun b hb => hM b hb, hH.one, fun s => ?_⟩
    · show Rep w M loc _ (argE 0 [] s)
      rw [argE_bad (Nat.zero_le _)]
      exact (RepZ.bad _).rep
    · show (argE 0 [] s).idLt H.length
      rw [argE_bad (Nat.zero_le _)]; trivial
  obtain ⟨M1, hM1, hr1⟩ := RR.frzRows l hrr hf
  have hM2 : ∀ b, M1 b → b < w.heap.size := fun b hb => (hr1.zone b hb).1
  have hz : ∀ (j : Nat) (x : Value) (e : AV), vs[j]? = some x → (largs.map (argA (frzRows H l)))[j]? = some e → RepZ w (fun b => b < w.heap.size) x e := fun j x e h1 h2 => by
    rw [List.getElem?_map] at h2
    cases h3 : largs[j]? with
    | none => rw [h3] at h2; cases h2
    | some e0 =>
      rw [h3] at h2
      obtain rfl : argA (frzRows H l) e0 = e := by simpa using h2
      obtain ⟨h4, h5⟩ := hvs j x e0 h1 h3
      have h6 : Rep w M1 loc x e0 := Rep.mono (n := H.length) (fun _ _ => rfl) hM1 (fun _ _ => rfl) h4 h5
      refine argA_ok hr1 hM2 h6 (List.all_eq_true.1 ho _ (List.mem_map.2 ⟨e0, List.mem_of_getElem? h3, rfl⟩)) fun id o _ e2 g hg => ?_
      obtain ⟨xs, hown, _⟩ := (hr1.obj id o e2).own
      exact (hown.lt g hg).2
  refine (h (fun b => b < w.heap.size) w vs (fun _ h => h) (hgl.mono (fun _ _ => rfl) fun b hb => hM2 b (hM1 b hb)) (by simp [hl]) hz).mono fun e w' ⟨x, he, hb, hx⟩ => ?_
  have hxr : x = rv := (RepZ.rep (loc := loc) hx).v_inv
  subst hxr
  exact ⟨x, M, loc, he, heapS_below hM hH hb, ⟨hb.os, hb.tape, hb.output, hb.size, fun k hk _ => hb.block k hk⟩, fun _ h => h, fun b hb' => ⟨Nat.lt_of_lt_of_le (hM b hb') hb.size, .inl hb'⟩, fun _ _ => rfl, (RepZ.v x).rep, trivial, Nat.le_refl _⟩
end Go.Proofs.YthibhamepjhfjaaGreatDoor

