/-
  The reference of layer 4: right integers.
-/
import Derived.Test.YtlejmkmcghbdiaaGreatDoorRefA
import Derived.Test.YtlejmkmcghbdiaaGreatDoorBigM
set_option linter.all false
namespace Go.Proofs.YtlejmkmcghbdiaaGreatDoor
open Go.RowKit Go.Ab
attribute [local irreducible] AWP Go.Ab.Sub Means MeansH CallK CallG CallT CallGT CallU

theorem kept_ok (s : Int) (L : List Int) (hl : L.length ≤ 60) : Means false Tryz.prog 39 [big2 s L] (.tup [big2 s L, ii 0]) := by
  refine means_fn false 10 [.cell 2 24, .tmp 3] Tryz.func39 rfl rfl rfl (by simp) (by decide) rfl fun X hX => ?_
  (repeat (first | refine awp_seq ?_ | refine awp_block ?_ | ((first | refine awp_runG [0, 1, 2, 3, 7] hX ?_ | refine awp_drawnG [0, 1, 2, 3, 7] hX mixed ?_ | refine awp_ret ?_ | refine awp_skip ?_ | refine awp_exit ?_); (simp [go_sem]; try (refine ⟨by kernel_rfl, ?_⟩)))))
  refine awp_cond (b := false) (by simp [go_sem]; try omega) (fun h => by cases h) (fun _ => ?_)
  (repeat (first | refine awp_seq ?_ | refine awp_block ?_ | ((first | refine awp_runG [0, 1, 2, 3, 7] hX ?_ | refine awp_drawnG [0, 1, 2, 3, 7] hX mixed ?_ | refine awp_ret ?_ | refine awp_skip ?_ | refine awp_exit ?_); (simp [go_sem]; try (refine ⟨by kernel_rfl, ?_⟩)))))
theorem kept_no (s : Int) (L : List Int) (hl : ¬ L.length ≤ 60) (hl2 : L.length ≤ 100000) : Means false Tryz.prog 39 [big2 s L] (.tup [big2 0 [], ii 6]) := by
  refine means_fn false 10 [.cell 2 24, .tmp 3] Tryz.func39 rfl rfl rfl (by simp) (by decide) rfl fun X hX => ?_
  (repeat (first | refine awp_seq ?_ | refine awp_block ?_ | ((first | refine awp_runG [0, 1, 2, 3, 7] hX ?_ | refine awp_drawnG [0, 1, 2, 3, 7] hX mixed ?_ | refine awp_ret ?_ | refine awp_skip ?_ | refine awp_exit ?_); (simp [go_sem]; try (refine ⟨by kernel_rfl, ?_⟩)))))
  refine awp_cond (b := true) (by simp [go_sem]; try omega) (fun _ => ?_) (fun h => by cases h)
  (repeat (first | refine awp_seq ?_ | refine awp_block ?_ | ((first | refine awp_runG [0, 1, 2, 3, 7] hX ?_ | refine awp_drawnG [0, 1, 2, 3, 7] hX mixed ?_ | refine awp_ret ?_ | refine awp_skip ?_ | refine awp_exit ?_); (simp [go_sem]; try (refine ⟨by kernel_rfl, ?_⟩)))))

set_option maxHeartbeats 4000000 in
set_option maxRecDepth 20000 in
theorem rRight_m (s : Int) (L : List Int) (hl : L.length ≤ 9223372036854775807) : Means false Tryz.prog 22 [big2 s L] (bb (decide (isR s L))) := by
  refine means_fn false 60 [.tmp 2] Tryz.func22 rfl rfl rfl (by simp) (by decide) rfl fun X hX => ?_
  (repeat (first | refine awp_seq ?_ | refine awp_block ?_ | ((first | refine awp_runG [0, 1, 2, 3, 4, 9, 25, 48] hX ?_ | refine awp_drawnG [0, 1, 2, 3, 4, 9, 25, 48] hX mixed ?_ | refine awp_ret ?_ | refine awp_skip ?_ | refine awp_exit ?_); (simp [go_sem]; try (refine ⟨by kernel_rfl, ?_⟩)))))
  refine awp_loop (fun n : Nat => ⟨mkE [(1, .el 0 2 0 0), (3, ii n)], [.row ⟨24, 2, [big2 s L]⟩]⟩) (fun n => n ≤ L.length ∧ okD (L.take n)) (fun n => L.length - n) 0 ?_ ?_ ?_
  · refine sub_of _ [.old 0 ⟨24, 2, [big2 s L]⟩] (by simp [go_sem]) ?_
    simp [go_sem]
  · exact ⟨Nat.zero_le _, by simp [okD]⟩
  · rintro n ⟨hn, hok⟩
    (repeat (first | refine awp_seq ?_ | refine awp_block ?_ | ((first | refine awp_runG [0, 1, 2, 3, 4, 9, 25, 48] hX ?_ | refine awp_drawnG [0, 1, 2, 3, 4, 9, 25, 48] hX mixed ?_ | refine awp_ret ?_ | refine awp_skip ?_ | refine awp_exit ?_); (simp [go_sem]; try (refine ⟨by kernel_rfl, ?_⟩)))))
    refine awp_cond (b := decide (n < L.length)) (by simp [go_sem]) (fun hd => ?_) (fun hd => ?_)
    · simp at hd
      (repeat (first | refine awp_seq ?_ | refine awp_block ?_ | ((first | refine awp_runG [0, 1, 2, 3, 4, 9, 25, 48] hX ?_ | refine awp_drawnG [0, 1, 2, 3, 4, 9, 25, 48] hX mixed ?_ | refine awp_ret ?_ | refine awp_skip ?_ | refine awp_exit ?_); (simp [go_sem, hd]; try (refine ⟨by kernel_rfl, ?_⟩)))))
      refine awp_cond (b := decide (L[n] < 0) || decide (1048576 ≤ L[n])) (by simp [go_sem, hd]; try omega) (fun hf => ?_) (fun hf => ?_)
      · have hf : L[n] < 0 ∨ 1048576 ≤ L[n] := by simpa using hf
        have hno : ¬ isR s L := fun h => by have := okD_at h.1 hd; omega
        (repeat (first | refine awp_seq ?_ | refine awp_block ?_ | ((first | refine awp_runG [0, 1, 2, 3, 4, 9, 25, 48] hX ?_ | refine awp_drawnG [0, 1, 2, 3, 4, 9, 25, 48] hX mixed ?_ | refine awp_ret ?_ | refine awp_skip ?_ | refine awp_exit ?_); (simp [go_sem, hno]; try (refine ⟨by kernel_rfl, ?_⟩)))))
      · have hf : ¬ (L[n] < 0 ∨ 1048576 ≤ L[n]) := by simpa using hf
        (repeat (first | refine awp_seq ?_ | refine awp_block ?_ | ((first | refine awp_runG [0, 1, 2, 3, 4, 9, 25, 48] hX ?_ | refine awp_drawnG [0, 1, 2, 3, 4, 9, 25, 48] hX mixed ?_ | refine awp_ret ?_ | refine awp_skip ?_ | refine awp_exit ?_); (simp [go_sem]; (try simp (disch := omega) only [w64, td, tm]); try (refine ⟨by kernel_rfl, ?_⟩)))))
        refine ⟨n + 1, ⟨by omega, ?_⟩, by omega, ?_⟩
        · rw [List.take_succ_eq_append_getElem hd]
          exact okD_app.2 ⟨hok, by simp [okD]; omega⟩
        · refine sub_of _ [.old 0 ⟨24, 2, [big2 s L]⟩] (by simp [go_sem]) ?_
          simp [go_sem]
    · have hnl : n = L.length := by simp at hd; omega
      subst hnl
      rw [List.take_length] at hok
      by_cases h0 : L.length = 0
      · have hL : L = [] := List.length_eq_zero_iff.1 h0
        subst hL
        by_cases hs : s = 0
        · subst hs
          have e : isR 0 ([] : List Int) := ⟨okD_nil, fun _ => rfl, fun h => absurd h (by simp)⟩
          (repeat (first | refine awp_seq ?_ | refine awp_block ?_ | ((first | refine awp_runG [0, 1, 2, 3, 4, 9, 25, 48] hX ?_ | refine awp_drawnG [0, 1, 2, 3, 4, 9, 25, 48] hX mixed ?_ | refine awp_ret ?_ | refine awp_skip ?_ | refine awp_exit ?_); (simp [go_sem, e]; try (refine ⟨by kernel_rfl, ?_⟩)))))
          refine awp_cond (b := false) (by simp [go_sem]) (fun h => by cases h) (fun _ => ?_)
          (repeat (first | refine awp_seq ?_ | refine awp_block ?_ | ((first | refine awp_runG [0, 1, 2, 3, 4, 9, 25, 48] hX ?_ | refine awp_drawnG [0, 1, 2, 3, 4, 9, 25, 48] hX mixed ?_ | refine awp_ret ?_ | refine awp_skip ?_ | refine awp_exit ?_); (simp [go_sem, e]; try (refine ⟨by kernel_rfl, ?_⟩)))))
        · have e : ¬ isR s [] := fun h => hs (h.2.1 rfl)
          (repeat (first | refine awp_seq ?_ | refine awp_block ?_ | ((first | refine awp_runG [0, 1, 2, 3, 4, 9, 25, 48] hX ?_ | refine awp_drawnG [0, 1, 2, 3, 4, 9, 25, 48] hX mixed ?_ | refine awp_ret ?_ | refine awp_skip ?_ | refine awp_exit ?_); (simp [go_sem, e]; try (refine ⟨by kernel_rfl, ?_⟩)))))
          refine awp_cond (b := true) (by simp [go_sem, hs]) (fun _ => ?_) (fun h => by cases h)
          (repeat (first | refine awp_seq ?_ | refine awp_block ?_ | ((first | refine awp_runG [0, 1, 2, 3, 4, 9, 25, 48] hX ?_ | refine awp_drawnG [0, 1, 2, 3, 4, 9, 25, 48] hX mixed ?_ | refine awp_ret ?_ | refine awp_skip ?_ | refine awp_exit ?_); (simp [go_sem, e]; try (refine ⟨by kernel_rfl, ?_⟩)))))
      · have hp : 0 < L.length := by omega
        by_cases h1 : (s = 1 ∨ s = -1) ∧ L.length ≤ 60
        · have hi : L.length - 1 < L.length := by omega
          have hw := w64 (x := (L.length : Int) - 1) (by omega) (by omega)
          have ht : ((L.length : Int) - 1).toNat = L.length - 1 := by omega
          have e : isR s L ↔ L[L.length - 1] ≠ 0 := ⟨fun h => (h.2.2 hp).2.2, fun h => ⟨hok, fun q => absurd q h0, fun _ => ⟨h1.1, h1.2, h⟩⟩⟩
          (repeat (first | refine awp_seq ?_ | refine awp_block ?_ | ((first | refine awp_runG [0, 1, 2, 3, 4, 9, 25, 48] hX ?_ | refine awp_drawnG [0, 1, 2, 3, 4, 9, 25, 48] hX mixed ?_ | refine awp_ret ?_ | refine awp_skip ?_ | refine awp_exit ?_); (simp [go_sem, h0]; try (refine ⟨by kernel_rfl, ?_⟩)))))
          refine awp_cond (b := false) (by simp [go_sem, h0]; omega) (fun h => by cases h) (fun _ => ?_)
          (repeat (first | refine awp_seq ?_ | refine awp_block ?_ | ((first | refine awp_runG [0, 1, 2, 3, 4, 9, 25, 48] hX ?_ | refine awp_drawnG [0, 1, 2, 3, 4, 9, 25, 48] hX mixed ?_ | refine awp_ret ?_ | refine awp_skip ?_ | refine awp_exit ?_); (simp [go_sem, h0, hw, ht, hi, e]; try (refine ⟨by kernel_rfl, ?_⟩)))))
          try (repeat refine And.intro (by first | omega | (unfold maxLen; omega) | kernel_rfl | (refine ⟨by first | omega | (unfold maxLen; omega), by first | omega | (unfold maxLen; omega)⟩) | grind) ?_)
          try (repeat (first | refine awp_seq ?_ | refine awp_block ?_ | ((first | refine awp_runG [0, 1, 2, 3, 4, 9, 25, 48] hX ?_ | refine awp_drawnG [0, 1, 2, 3, 4, 9, 25, 48] hX mixed ?_ | refine awp_ret ?_ | refine awp_skip ?_ | refine awp_exit ?_); (simp [go_sem, h0, hw, ht, hi, e]; try (refine ⟨by kernel_rfl, ?_⟩)))))
        · have e : ¬ isR s L := fun h => h1 ⟨(h.2.2 hp).1, (h.2.2 hp).2.1⟩
          (repeat (first | refine awp_seq ?_ | refine awp_block ?_ | ((first | refine awp_runG [0, 1, 2, 3, 4, 9, 25, 48] hX ?_ | refine awp_drawnG [0, 1, 2, 3, 4, 9, 25, 48] hX mixed ?_ | refine awp_ret ?_ | refine awp_skip ?_ | refine awp_exit ?_); (simp [go_sem, h0]; try (refine ⟨by kernel_rfl, ?_⟩)))))
          refine awp_cond (b := true) (by simp [go_sem, h0]; omega) (fun _ => ?_) (fun h => by cases h)
          (repeat (first | refine awp_seq ?_ | refine awp_block ?_ | ((first | refine awp_runG [0, 1, 2, 3, 4, 9, 25, 48] hX ?_ | refine awp_drawnG [0, 1, 2, 3, 4, 9, 25, 48] hX mixed ?_ | refine awp_ret ?_ | refine awp_skip ?_ | refine awp_exit ?_); (simp [go_sem, e]; try (refine ⟨by kernel_rfl, ?_⟩)))))

theorem rRight_t (z : Int) (h : rz z) : Means false Tryz.prog 22 [bigZ z] (bb true) := by
  have := rRight_m (sg z) (dg (ab z)) (by have := len60 h; omega)
  have e : decide (isR (sg z) (dg (ab z))) = true := decide_eq_true (isR_of h)
  rwa [e] at this
set_option maxHeartbeats 4000000 in
theorem rMul_ok (z w : Int) (hz : rz z) (hw : rz w) (hp : rz (z * w)) : Means false Tryz.prog 11 [bigZ z, bigZ w] (.tup [bigZ (z * w), ii 0]) := by
  have hlz := len60 hz
  have hlw := len60 hw
  have hlp := len60 hp
  have ht := rtimes_m (dg (ab z)) (dg (ab w)) (by omega) (by omega) (okD_dg _) (okD_dg _)
  rw [val_ab, val_ab] at ht
  have eab : ab z * ab w = ab (z * w) := (ab_mul z w).symm
  rw [eab] at ht
  have hm := rmade_m (sg z * sg w) (dg (ab (z * w))) (by omega) (okD_dg _)
  rw [val_ab] at hm
  have es : (if ab (z * w) = 0 then 0 else sg z * sg w) = sg (z * w) := by
    split
    · rename_i h
      have : z * w = 0 := by unfold ab at h; split at h <;> omega
      rw [this]; rfl
    · rw [sg_mul]
  rw [es] at hm
  have hb1 := sg_bd z
  have hb2 := sg_bd w
  have hws : IntKind.i64.wrap (sg z * sg w) = sg z * sg w := by
    rw [← sg_mul]
    have := sg_bd (z * w)
    exact w64 (by omega) (by omega)
  refine means_fn false 29 [.cell 4 24, .tmp 5] Tryz.func11 rfl rfl rfl (by simp) (by decide) rfl fun X hX => ?_
  (repeat (first | refine awp_seq ?_ | refine awp_block ?_ | ((first | refine awp_runG [0, 1, 2, 3, 4, 5, 13] hX ?_ | refine awp_drawnG [0, 1, 2, 3, 4, 5, 13] hX mixed ?_ | refine awp_ret ?_ | refine awp_skip ?_ | refine awp_exit ?_); (simp [go_sem]; try (refine ⟨by kernel_rfl, ?_⟩)))))
  first | refine callK_intro (rRight_t z hz) rfl (by simp [go_sem]) rfl ?_ | refine callT_intro (rRight_t z hz) rfl (by simp [go_sem]) rfl ?_
  try (simp [go_sem]; try (refine ⟨by kernel_rfl, ?_⟩))
  first | refine callG_intro (fun hg => rRight_t w hw) rfl (by simp [go_sem]) rfl ?_ | refine callGT_intro (fun hg => rRight_t w hw) rfl (by simp [go_sem]) rfl ?_
  try (simp [go_sem]; try (refine ⟨by kernel_rfl, ?_⟩))
  refine awp_cond (b := false) (by simp [go_sem]) (fun h => by cases h) (fun _ => ?_)
  (repeat (first | refine awp_seq ?_ | refine awp_block ?_ | ((first | refine awp_runG [0, 1, 2, 3, 4, 5, 13] hX ?_ | refine awp_drawnG [0, 1, 2, 3, 4, 5, 13] hX mixed ?_ | refine awp_ret ?_ | refine awp_skip ?_ | refine awp_exit ?_); (simp [go_sem, hws]; try (refine ⟨by kernel_rfl, ?_⟩)))))
  first | refine callK_intro (ht) rfl (by simp [go_sem]) rfl ?_ | refine callT_intro (ht) rfl (by simp [go_sem]) rfl ?_
  try (simp [go_sem, hws]; try (refine ⟨by kernel_rfl, ?_⟩))
  first | refine callK_intro (hm) rfl (by simp [go_sem]) rfl ?_ | refine callT_intro (hm) rfl (by simp [go_sem]) rfl ?_
  try (simp [go_sem]; try (refine ⟨by kernel_rfl, ?_⟩))
  first | refine callK_intro (kept_ok _ _ hlp) rfl (by simp [go_sem]) rfl ?_ | refine callT_intro (kept_ok _ _ hlp) rfl (by simp [go_sem]) rfl ?_
  try (simp [go_sem]; try (refine ⟨by kernel_rfl, ?_⟩))
  (repeat (first | refine awp_seq ?_ | refine awp_block ?_ | ((first | refine awp_runG [0, 1, 2, 3, 4, 5, 13] hX ?_ | refine awp_drawnG [0, 1, 2, 3, 4, 5, 13] hX mixed ?_ | refine awp_ret ?_ | refine awp_skip ?_ | refine awp_exit ?_); (simp [go_sem]; try (refine ⟨by kernel_rfl, ?_⟩)))))

set_option maxHeartbeats 4000000 in
set_option maxRecDepth 20000 in
/-- For ints that are not negative. -/
theorem rOf_p (n : Int) (hn : 0 ≤ n ∧ n ≤ 9223372036854775807) : Means false Tryz.prog 31 [ii n] (bigZ n) := by
  have hab := ab_nonneg n
  have hae : ab n = n := by unfold ab; rw [if_neg (by omega)]
  have hlo : (dg (ab n)).length ≤ 4 := by
    rw [dg_len_iff]
    have : (1048576 : Int) ^ 4 = 1208925819614629174706176 := by decide
    omega
  by_cases h0 : n = 0
  · subst h0
    refine means_fn false 28 [.cell 2 24] Tryz.func31 rfl rfl rfl (by simp) (by decide) rfl fun X hX => ?_
    (repeat (first | refine awp_seq ?_ | refine awp_block ?_ | ((first | refine awp_runG [0, 2, 3, 4, 5, 7, 10, 12, 16] hX ?_ | refine awp_drawnG [0, 2, 3, 4, 5, 7, 10, 12, 16] hX mixed ?_ | refine awp_ret ?_ | refine awp_skip ?_ | refine awp_exit ?_); (simp [go_sem]; try (refine ⟨by kernel_rfl, ?_⟩)))))
    refine awp_cond (b := true) (by simp [go_sem]) (fun _ => ?_) (fun h => by cases h)
    (repeat (first | refine awp_seq ?_ | refine awp_block ?_ | ((first | refine awp_runG [0, 2, 3, 4, 5, 7, 10, 12, 16] hX ?_ | refine awp_drawnG [0, 2, 3, 4, 5, 7, 10, 12, 16] hX mixed ?_ | refine awp_ret ?_ | refine awp_skip ?_ | refine awp_exit ?_); (simp [go_sem]; try (refine ⟨by kernel_rfl, ?_⟩)))))
    rfl
  · have hsg : sg n = 1 := by rcases sg_cases n with h | h | h <;> omega
    refine means_fn false 28 [.cell 2 24] Tryz.func31 rfl rfl rfl (by simp) (by decide) rfl fun X hX => ?_
    (repeat (first | refine awp_seq ?_ | refine awp_block ?_ | ((first | refine awp_runG [0, 2, 3, 4, 5, 7, 10, 12, 16] hX ?_ | refine awp_drawnG [0, 2, 3, 4, 5, 7, 10, 12, 16] hX mixed ?_ | refine awp_ret ?_ | refine awp_skip ?_ | refine awp_exit ?_); (simp [go_sem]; try (refine ⟨by kernel_rfl, ?_⟩)))))
    refine awp_cond (b := false) (by simp [go_sem, h0]) (fun h => by cases h) (fun _ => ?_)
    (repeat (first | refine awp_seq ?_ | refine awp_block ?_ | ((first | refine awp_runG [0, 2, 3, 4, 5, 7, 10, 12, 16] hX ?_ | refine awp_drawnG [0, 2, 3, 4, 5, 7, 10, 12, 16] hX mixed ?_ | refine awp_ret ?_ | refine awp_skip ?_ | refine awp_exit ?_); (simp [go_sem]; try (refine ⟨by kernel_rfl, ?_⟩)))))
    refine awp_cond (b := false) (by simp [go_sem]; omega) (fun h => by cases h) (fun _ => ?_)
    (repeat (first | refine awp_seq ?_ | refine awp_block ?_ | ((first | refine awp_runG [0, 2, 3, 4, 5, 7, 10, 12, 16] hX ?_ | refine awp_drawnG [0, 2, 3, 4, 5, 7, 10, 12, 16] hX mixed ?_ | refine awp_ret ?_ | refine awp_skip ?_ | refine awp_exit ?_); (simp [go_sem]; try (refine ⟨by kernel_rfl, ?_⟩)))))
    refine awp_loop (fun x : Int × List Int => ⟨mkE [(0, ii x.1), (2, .el 0 2 0 0), (3, ii 1), (4, .ow 1)], [.row ⟨24, 2, [.agg [ii 0, .nil]]⟩, rowI x.2]⟩)
      (fun x => 0 ≤ x.1 ∧ x.1 ≤ 9223372036854775807 ∧ x.2 ++ dg x.1 = dg (ab n)) (fun x => x.1.toNat) (n, []) ?_ ?_ ?_
    · refine sub_of _ [.old 0 ⟨24, 2, [.agg [ii 0, .nil]]⟩, .birth 3 1] (by simp [go_sem]) ?_
      simp [go_sem]
    · exact ⟨hn.1, hn.2, by simp [hae]⟩
    · rintro ⟨u, L⟩ ⟨hu, hu2, hE⟩
      simp only [] at hu hu2 hE
      (repeat (first | refine awp_seq ?_ | refine awp_block ?_ | ((first | refine awp_runG [0, 2, 3, 4, 5, 7, 10, 12, 16] hX ?_ | refine awp_drawnG [0, 2, 3, 4, 5, 7, 10, 12, 16] hX mixed ?_ | refine awp_ret ?_ | refine awp_skip ?_ | refine awp_exit ?_); (simp [go_sem]; try (refine ⟨by kernel_rfl, ?_⟩)))))
      refine awp_cond (b := decide (u ≠ 0)) (by simp [go_sem]) (fun hd => ?_) (fun hd => ?_)
      · simp only [decide_eq_true_eq] at hd
        have hm : u.tmod 1048576 = u % 1048576 := Int.tmod_eq_emod_of_nonneg hu
        have hq : u.tdiv 1048576 = u / 1048576 := Int.tdiv_eq_ediv_of_nonneg hu
        have hLl : L.length ≤ 4 := by have := congrArg List.length hE; simp at this; omega
        obtain ⟨r, hr⟩ : ∃ r, u % 1048576 = r := ⟨_, rfl⟩
        obtain ⟨q, hqe⟩ : ∃ q, u / 1048576 = q := ⟨_, rfl⟩
        have hdg := dg_pos (n := u) (by omega)
        rw [hr, hqe] at hdg
        rw [hr] at hm
        rw [hqe] at hq
        have w1 := w64 (x := r) (by omega) (by omega)
        have w2 := w64 (x := q) (by omega) (by omega)
        (repeat (first | refine awp_seq ?_ | refine awp_block ?_ | ((first | refine awp_runG [0, 2, 3, 4, 5, 7, 10, 12, 16] hX ?_ | refine awp_drawnG [0, 2, 3, 4, 5, 7, 10, 12, 16] hX mixed ?_ | refine awp_ret ?_ | refine awp_skip ?_ | refine awp_exit ?_); (simp [go_sem, hm, w1]; try (refine ⟨by kernel_rfl, ?_⟩)))))
        refine awp_cond (b := false) (by simp [go_sem]; omega) (fun h => by cases h) (fun _ => ?_)
        (repeat (first | refine awp_seq ?_ | refine awp_block ?_ | ((first | refine awp_runG [0, 2, 3, 4, 5, 7, 10, 12, 16] hX ?_ | refine awp_drawnG [0, 2, 3, 4, 5, 7, 10, 12, 16] hX mixed ?_ | refine awp_ret ?_ | refine awp_skip ?_ | refine awp_exit ?_); (simp [go_sem, hq, w2]; try (refine ⟨by kernel_rfl, ?_⟩)))))
        try (repeat refine And.intro (by first | omega | (unfold maxLen; omega) | kernel_rfl | (refine ⟨by first | omega | (unfold maxLen; omega), by first | omega | (unfold maxLen; omega)⟩) | grind) ?_)
        try (repeat (first | refine awp_seq ?_ | refine awp_block ?_ | ((first | refine awp_runG [0, 2, 3, 4, 5, 7, 10, 12, 16] hX ?_ | refine awp_drawnG [0, 2, 3, 4, 5, 7, 10, 12, 16] hX mixed ?_ | refine awp_ret ?_ | refine awp_skip ?_ | refine awp_exit ?_); (simp [go_sem, hq, w2]; try (refine ⟨by kernel_rfl, ?_⟩)))))
        refine ⟨q, L ++ [r], ⟨by omega, by omega, by rw [← hE, hdg]; simp⟩, by omega, ?_⟩
        refine sub_of _ [.old 0 ⟨24, 2, [.agg [ii 0, .nil]]⟩, .old 3 ⟨3, 1, (L ++ [r]).map ii⟩] (by simp [go_sem]) ?_
        simp [go_sem]
      · simp only [decide_eq_false_iff_not, Classical.not_not] at hd
        subst hd
        rw [dg_zero, List.append_nil] at hE
        have hmd := rmade_m 1 L (by rw [hE]; omega) (by rw [hE]; exact okD_dg _)
        have e1 : (if val L = 0 then 0 else 1) = sg n := by rw [hE, val_ab, if_neg (by omega), hsg]
        rw [e1, hE, val_ab] at hmd
        rw [← hE] at hmd
        (repeat (first | refine awp_seq ?_ | refine awp_block ?_ | ((first | refine awp_runG [0, 2, 3, 4, 5, 7, 10, 12, 16] hX ?_ | refine awp_drawnG [0, 2, 3, 4, 5, 7, 10, 12, 16] hX mixed ?_ | refine awp_ret ?_ | refine awp_skip ?_ | refine awp_exit ?_); (simp [go_sem]; try (refine ⟨by kernel_rfl, ?_⟩)))))
        refine callKk_intro (hmd) rfl rfl ?_
        try (simp [go_sem]; try (refine ⟨by kernel_rfl, ?_⟩))
        (repeat (first | refine awp_seq ?_ | refine awp_block ?_ | ((first | refine awp_runG [0, 2, 3, 4, 5, 7, 10, 12, 16] hX ?_ | refine awp_drawnG [0, 2, 3, 4, 5, 7, 10, 12, 16] hX mixed ?_ | refine awp_ret ?_ | refine awp_skip ?_ | refine awp_exit ?_); (simp [go_sem]; try (refine ⟨by kernel_rfl, ?_⟩)))))
        try simp [hE]

set_option maxHeartbeats 4000000 in
set_option maxRecDepth 20000 in
theorem rOf_n (n : Int) (hn : -9223372036854775808 ≤ n ∧ n < 0) : Means false Tryz.prog 31 [ii n] (bigZ n) := by
  have hab := ab_nonneg n
  have hae : ab n = -n := by unfold ab; rw [if_pos (by omega)]
  have hlo : (dg (ab n)).length ≤ 4 := by
    rw [dg_len_iff]
    have : (1048576 : Int) ^ 4 = 1208925819614629174706176 := by decide
    omega
  have h0 : n ≠ 0 := by omega
  have hsg : sg n = -1 := by rcases sg_cases n with h | h | h <;> omega
  refine means_fn false 28 [.cell 2 24] Tryz.func31 rfl rfl rfl (by simp) (by decide) rfl fun X hX => ?_
  (repeat (first | refine awp_seq ?_ | refine awp_block ?_ | ((first | refine awp_runG [0, 2, 3, 4, 5, 7, 10, 12, 16] hX ?_ | refine awp_drawnG [0, 2, 3, 4, 5, 7, 10, 12, 16] hX mixed ?_ | refine awp_ret ?_ | refine awp_skip ?_ | refine awp_exit ?_); (simp [go_sem]; try (refine ⟨by kernel_rfl, ?_⟩)))))
  refine awp_cond (b := false) (by simp [go_sem, h0]) (fun h => by cases h) (fun _ => ?_)
  (repeat (first | refine awp_seq ?_ | refine awp_block ?_ | ((first | refine awp_runG [0, 2, 3, 4, 5, 7, 10, 12, 16] hX ?_ | refine awp_drawnG [0, 2, 3, 4, 5, 7, 10, 12, 16] hX mixed ?_ | refine awp_ret ?_ | refine awp_skip ?_ | refine awp_exit ?_); (simp [go_sem]; try (refine ⟨by kernel_rfl, ?_⟩)))))
  refine awp_cond (b := true) (by simp [go_sem]; omega) (fun _ => ?_) (fun h => by cases h)
  (repeat (first | refine awp_seq ?_ | refine awp_block ?_ | ((first | refine awp_runG [0, 2, 3, 4, 5, 7, 10, 12, 16] hX ?_ | refine awp_drawnG [0, 2, 3, 4, 5, 7, 10, 12, 16] hX mixed ?_ | refine awp_ret ?_ | refine awp_skip ?_ | refine awp_exit ?_); (simp [go_sem]; try (refine ⟨by kernel_rfl, ?_⟩)))))
  refine awp_loop (fun x : Int × List Int => ⟨mkE [(0, ii (-x.1)), (2, .el 0 2 0 0), (3, ii (-1)), (4, .ow 1)], [.row ⟨24, 2, [.agg [ii 0, .nil]]⟩, rowI x.2]⟩)
    (fun x => 0 ≤ x.1 ∧ x.1 ≤ 9223372036854775808 ∧ x.2 ++ dg x.1 = dg (ab n)) (fun x => x.1.toNat) (-n, []) ?_ ?_ ?_
  · refine sub_of _ [.old 0 ⟨24, 2, [.agg [ii 0, .nil]]⟩, .birth 3 1] (by simp [go_sem]) ?_
    simp [go_sem]
  · exact ⟨by show 0 ≤ -n; omega, by show -n ≤ _; omega, by simp [hae]⟩
  · rintro ⟨u, L⟩ ⟨hu, hu2, hE⟩
    simp only [] at hu hu2 hE
    (repeat (first | refine awp_seq ?_ | refine awp_block ?_ | ((first | refine awp_runG [0, 2, 3, 4, 5, 7, 10, 12, 16] hX ?_ | refine awp_drawnG [0, 2, 3, 4, 5, 7, 10, 12, 16] hX mixed ?_ | refine awp_ret ?_ | refine awp_skip ?_ | refine awp_exit ?_); (simp [go_sem]; try (refine ⟨by kernel_rfl, ?_⟩)))))
    refine awp_cond (b := decide (u ≠ 0)) (by simp [go_sem]; try omega) (fun hd => ?_) (fun hd => ?_)
    · simp only [decide_eq_true_eq] at hd
      have hm : u.tmod 1048576 = u % 1048576 := Int.tmod_eq_emod_of_nonneg hu
      have hq : u.tdiv 1048576 = u / 1048576 := Int.tdiv_eq_ediv_of_nonneg hu
      have hLl : L.length ≤ 4 := by have := congrArg List.length hE; simp at this; omega
      obtain ⟨r, hr⟩ : ∃ r, u % 1048576 = r := ⟨_, rfl⟩
      obtain ⟨q, hqe⟩ : ∃ q, u / 1048576 = q := ⟨_, rfl⟩
      have hdg := dg_pos (n := u) (by omega)
      rw [hr, hqe] at hdg
      rw [hr] at hm
      rw [hqe] at hq
      have hm2 : (-u).tmod 1048576 = -r := by rw [Int.neg_tmod, hm]
      have hq2 : (-u).tdiv 1048576 = -q := by rw [Int.neg_tdiv, hq]
      have w1 := w64 (x := r) (by omega) (by omega)
      have w1n := w64 (x := -r) (by omega) (by omega)
      have w2 := w64 (x := -q) (by omega) (by omega)
      (repeat (first | refine awp_seq ?_ | refine awp_block ?_ | ((first | refine awp_runG [0, 2, 3, 4, 5, 7, 10, 12, 16] hX ?_ | refine awp_drawnG [0, 2, 3, 4, 5, 7, 10, 12, 16] hX mixed ?_ | refine awp_ret ?_ | refine awp_skip ?_ | refine awp_exit ?_); (simp [go_sem, hm2, hm, w1n, w1]; try (refine ⟨by kernel_rfl, ?_⟩)))))
      refine awp_cond (b := decide (0 < r)) (by simp [go_sem]; try omega) (fun hs => ?_) (fun hs => ?_)
      · (repeat (first | refine awp_seq ?_ | refine awp_block ?_ | ((first | refine awp_runG [0, 2, 3, 4, 5, 7, 10, 12, 16] hX ?_ | refine awp_drawnG [0, 2, 3, 4, 5, 7, 10, 12, 16] hX mixed ?_ | refine awp_ret ?_ | refine awp_skip ?_ | refine awp_exit ?_); (simp [go_sem, hq2, hq, w2, w1]; try (refine ⟨by kernel_rfl, ?_⟩)))))
        try (repeat refine And.intro (by first | omega | (unfold maxLen; omega) | kernel_rfl | (refine ⟨by first | omega | (unfold maxLen; omega), by first | omega | (unfold maxLen; omega)⟩) | grind) ?_)
        try (repeat (first | refine awp_seq ?_ | refine awp_block ?_ | ((first | refine awp_runG [0, 2, 3, 4, 5, 7, 10, 12, 16] hX ?_ | refine awp_drawnG [0, 2, 3, 4, 5, 7, 10, 12, 16] hX mixed ?_ | refine awp_ret ?_ | refine awp_skip ?_ | refine awp_exit ?_); (simp [go_sem, hq2, hq, w2, w1]; try (refine ⟨by kernel_rfl, ?_⟩)))))
        refine ⟨q, L ++ [r], ⟨by omega, by omega, by rw [← hE, hdg]; simp⟩, by omega, ?_⟩
        refine sub_of _ [.old 0 ⟨24, 2, [.agg [ii 0, .nil]]⟩, .old 3 ⟨3, 1, (L ++ [r]).map ii⟩] (by simp [go_sem]) ?_
        simp [go_sem]
      · have hr0 : r = 0 := by simp at hs; omega
        subst hr0
        (repeat (first | refine awp_seq ?_ | refine awp_block ?_ | ((first | refine awp_runG [0, 2, 3, 4, 5, 7, 10, 12, 16] hX ?_ | refine awp_drawnG [0, 2, 3, 4, 5, 7, 10, 12, 16] hX mixed ?_ | refine awp_ret ?_ | refine awp_skip ?_ | refine awp_exit ?_); (simp [go_sem, hq2, hq, w2]; try (refine ⟨by kernel_rfl, ?_⟩)))))
        try (repeat refine And.intro (by first | omega | (unfold maxLen; omega) | kernel_rfl | (refine ⟨by first | omega | (unfold maxLen; omega), by first | omega | (unfold maxLen; omega)⟩) | grind) ?_)
        try (repeat (first | refine awp_seq ?_ | refine awp_block ?_ | ((first | refine awp_runG [0, 2, 3, 4, 5, 7, 10, 12, 16] hX ?_ | refine awp_drawnG [0, 2, 3, 4, 5, 7, 10, 12, 16] hX mixed ?_ | refine awp_ret ?_ | refine awp_skip ?_ | refine awp_exit ?_); (simp [go_sem, hq2, hq, w2]; try (refine ⟨by kernel_rfl, ?_⟩)))))
        refine ⟨q, L ++ [(0 : Int)], ⟨by omega, by omega, by rw [← hE, hdg]; simp⟩, by omega, ?_⟩
        refine sub_of _ [.old 0 ⟨24, 2, [.agg [ii 0, .nil]]⟩, .old 3 ⟨3, 1, (L ++ [(0 : Int)]).map ii⟩] (by simp [go_sem]) ?_
        simp [go_sem]
    · simp only [decide_eq_false_iff_not, Classical.not_not] at hd
      subst hd
      rw [dg_zero, List.append_nil] at hE
      have hmd := rmade_m (-1) L (by rw [hE]; omega) (by rw [hE]; exact okD_dg _)
      have e1 : (if val L = 0 then 0 else -1) = sg n := by rw [hE, val_ab, if_neg (by omega), hsg]
      rw [e1, hE, val_ab] at hmd
      rw [← hE] at hmd
      (repeat (first | refine awp_seq ?_ | refine awp_block ?_ | ((first | refine awp_runG [0, 2, 3, 4, 5, 7, 10, 12, 16] hX ?_ | refine awp_drawnG [0, 2, 3, 4, 5, 7, 10, 12, 16] hX mixed ?_ | refine awp_ret ?_ | refine awp_skip ?_ | refine awp_exit ?_); (simp [go_sem]; try (refine ⟨by kernel_rfl, ?_⟩)))))
      refine callKk_intro (hmd) rfl rfl ?_
      try (simp [go_sem]; try (refine ⟨by kernel_rfl, ?_⟩))
      (repeat (first | refine awp_seq ?_ | refine awp_block ?_ | ((first | refine awp_runG [0, 2, 3, 4, 5, 7, 10, 12, 16] hX ?_ | refine awp_drawnG [0, 2, 3, 4, 5, 7, 10, 12, 16] hX mixed ?_ | refine awp_ret ?_ | refine awp_skip ?_ | refine awp_exit ?_); (simp [go_sem]; try (refine ⟨by kernel_rfl, ?_⟩)))))
      try simp [hE]
theorem rOf_m (n : Int) (hn : -9223372036854775808 ≤ n ∧ n ≤ 9223372036854775807) : Means false Tryz.prog 31 [ii n] (bigZ n) := by
  rcases Int.lt_or_le n 0 with h | h
  · exact rOf_n n ⟨hn.1, h⟩
  · exact rOf_p n ⟨h, hn.2⟩

theorem rSame_m (s1 s2 : Int) (a b : List Int) (hla : a.length ≤ 140737488355328) (hlb : b.length ≤ 140737488355328) : Means false Tryz.prog 12 [big2 s1 a, big2 s2 b] (bb (decide (s1 = s2 ∧ a = b))) := by
  refine means_fn false 38 [.tmp 4] Tryz.func12 rfl rfl rfl (by simp) (by decide) rfl fun X hX => ?_
  (repeat (first | refine awp_seq ?_ | refine awp_block ?_ | ((first | refine awp_runG [0, 1, 2, 3, 4, 5, 19, 24, 37] hX ?_ | refine awp_drawnG [0, 1, 2, 3, 4, 5, 19, 24, 37] hX mixed ?_ | refine awp_ret ?_ | refine awp_skip ?_ | refine awp_exit ?_); (simp [go_sem]; try (refine ⟨by kernel_rfl, ?_⟩)))))
  by_cases h : s1 = s2
  · subst h
    by_cases hl : a.length = b.length
    · (repeat (first | refine awp_seq ?_ | refine awp_block ?_ | ((first | refine awp_runG [0, 1, 2, 3, 4, 5, 19, 24, 37] hX ?_ | refine awp_drawnG [0, 1, 2, 3, 4, 5, 19, 24, 37] hX mixed ?_ | refine awp_ret ?_ | refine awp_skip ?_ | refine awp_exit ?_); (simp [go_sem, hl]; try (refine ⟨by kernel_rfl, ?_⟩)))))
      refine awp_cond (b := false) (by simp [go_sem, hl]) (fun hb => by cases hb) (fun _ => ?_)
      (repeat (first | refine awp_seq ?_ | refine awp_block ?_ | ((first | refine awp_runG [0, 1, 2, 3, 4, 5, 19, 24, 37] hX ?_ | refine awp_drawnG [0, 1, 2, 3, 4, 5, 19, 24, 37] hX mixed ?_ | refine awp_ret ?_ | refine awp_skip ?_ | refine awp_exit ?_); (simp [go_sem]; try (refine ⟨by kernel_rfl, ?_⟩)))))
      refine awp_loop (fun n : Nat => ⟨mkE [(2, .el 0 2 0 0), (3, .el 1 2 0 0), (5, ii n)], [.row ⟨24, 2, [big2 s1 a]⟩, .row ⟨24, 2, [big2 s1 b]⟩]⟩) (fun n => n ≤ a.length ∧ a.take n = b.take n) (fun n => a.length - n) 0 ?_ ?_ ?_
      · refine sub_of _ [.old 0 ⟨24, 2, [big2 s1 a]⟩, .old 1 ⟨24, 2, [big2 s1 b]⟩] (by simp [go_sem]) ?_
        simp [go_sem]
      · exact ⟨Nat.zero_le _, by simp⟩
      · rintro n ⟨hn, he⟩
        (repeat (first | refine awp_seq ?_ | refine awp_block ?_ | ((first | refine awp_runG [0, 1, 2, 3, 4, 5, 19, 24, 37] hX ?_ | refine awp_drawnG [0, 1, 2, 3, 4, 5, 19, 24, 37] hX mixed ?_ | refine awp_ret ?_ | refine awp_skip ?_ | refine awp_exit ?_); (simp [go_sem]; try (refine ⟨by kernel_rfl, ?_⟩)))))
        refine awp_cond (b := decide (n < a.length)) (by simp [go_sem]) (fun hd2 => ?_) (fun hd2 => ?_)
        · simp at hd2
          have h2 : n < b.length := by omega
          (repeat (first | refine awp_seq ?_ | refine awp_block ?_ | ((first | refine awp_runG [0, 1, 2, 3, 4, 5, 19, 24, 37] hX ?_ | refine awp_drawnG [0, 1, 2, 3, 4, 5, 19, 24, 37] hX mixed ?_ | refine awp_ret ?_ | refine awp_skip ?_ | refine awp_exit ?_); (simp [go_sem, hd2, h2]; (try simp (disch := omega) only [w64, td, tm]); try (refine ⟨by kernel_rfl, ?_⟩)))))
          (repeat refine And.intro (by first | omega | (unfold maxLen; omega) | kernel_rfl | (refine ⟨by first | omega | (unfold maxLen; omega), by first | omega | (unfold maxLen; omega)⟩) | grind) ?_)
          try (simp [go_sem, hd2, h2]; try (refine ⟨by kernel_rfl, ?_⟩))
          refine awp_cond (b := decide (a[n] ≠ b[n])) (by simp [go_sem, hd2, h2]; try omega) (fun hc => ?_) (fun hc => ?_)
          · simp only [decide_eq_true_eq] at hc
            have hne : ¬ a = b := fun e => hc (by simp only [e])
            (repeat (first | refine awp_seq ?_ | refine awp_block ?_ | ((first | refine awp_runG [0, 1, 2, 3, 4, 5, 19, 24, 37] hX ?_ | refine awp_drawnG [0, 1, 2, 3, 4, 5, 19, 24, 37] hX mixed ?_ | refine awp_ret ?_ | refine awp_skip ?_ | refine awp_exit ?_); (simp [go_sem, hne]; try (refine ⟨by kernel_rfl, ?_⟩)))))
          · simp at hc
            (repeat (first | refine awp_seq ?_ | refine awp_block ?_ | ((first | refine awp_runG [0, 1, 2, 3, 4, 5, 19, 24, 37] hX ?_ | refine awp_drawnG [0, 1, 2, 3, 4, 5, 19, 24, 37] hX mixed ?_ | refine awp_ret ?_ | refine awp_skip ?_ | refine awp_exit ?_); (simp [go_sem]; (try simp (disch := omega) only [w64, td, tm]); try (refine ⟨by kernel_rfl, ?_⟩)))))
            refine ⟨n + 1, ⟨by omega, ?_⟩, by omega, ?_⟩
            · rw [List.take_succ_eq_append_getElem hd2, List.take_succ_eq_append_getElem h2, he, hc]
            · refine sub_of _ [.old 0 ⟨24, 2, [big2 s1 a]⟩, .old 1 ⟨24, 2, [big2 s1 b]⟩] (by simp [go_sem]) ?_
              simp [go_sem]
        · have hnl : n = a.length := by simp at hd2; omega
          subst hnl
          have hab : a = b := by rwa [List.take_length, hl, List.take_length] at he
          (repeat (first | refine awp_seq ?_ | refine awp_block ?_ | ((first | refine awp_runG [0, 1, 2, 3, 4, 5, 19, 24, 37] hX ?_ | refine awp_drawnG [0, 1, 2, 3, 4, 5, 19, 24, 37] hX mixed ?_ | refine awp_ret ?_ | refine awp_skip ?_ | refine awp_exit ?_); (simp [go_sem, hab]; try (refine ⟨by kernel_rfl, ?_⟩)))))
    · have hne : ¬ a = b := fun e => hl (by rw [e])
      (repeat (first | refine awp_seq ?_ | refine awp_block ?_ | ((first | refine awp_runG [0, 1, 2, 3, 4, 5, 19, 24, 37] hX ?_ | refine awp_drawnG [0, 1, 2, 3, 4, 5, 19, 24, 37] hX mixed ?_ | refine awp_ret ?_ | refine awp_skip ?_ | refine awp_exit ?_); (simp [go_sem, hl]; try (refine ⟨by kernel_rfl, ?_⟩)))))
      refine awp_cond (b := true) (by simp [go_sem, hl]; try omega) (fun _ => ?_) (fun hb => by cases hb)
      (repeat (first | refine awp_seq ?_ | refine awp_block ?_ | ((first | refine awp_runG [0, 1, 2, 3, 4, 5, 19, 24, 37] hX ?_ | refine awp_drawnG [0, 1, 2, 3, 4, 5, 19, 24, 37] hX mixed ?_ | refine awp_ret ?_ | refine awp_skip ?_ | refine awp_exit ?_); (simp [go_sem, hne]; try (refine ⟨by kernel_rfl, ?_⟩)))))
  · (repeat (first | refine awp_seq ?_ | refine awp_block ?_ | ((first | refine awp_runG [0, 1, 2, 3, 4, 5, 19, 24, 37] hX ?_ | refine awp_drawnG [0, 1, 2, 3, 4, 5, 19, 24, 37] hX mixed ?_ | refine awp_ret ?_ | refine awp_skip ?_ | refine awp_exit ?_); (simp [go_sem, h]; try (refine ⟨by kernel_rfl, ?_⟩)))))
    refine awp_cond (b := true) (by simp [go_sem, h]) (fun _ => ?_) (fun hb => by cases hb)
    (repeat (first | refine awp_seq ?_ | refine awp_block ?_ | ((first | refine awp_runG [0, 1, 2, 3, 4, 5, 19, 24, 37] hX ?_ | refine awp_drawnG [0, 1, 2, 3, 4, 5, 19, 24, 37] hX mixed ?_ | refine awp_ret ?_ | refine awp_skip ?_ | refine awp_exit ?_); (simp [go_sem, h]; try (refine ⟨by kernel_rfl, ?_⟩)))))
theorem rSameZ_m (z w : Int) (hz : rz z) (hw : rz w) : Means false Tryz.prog 12 [bigZ z, bigZ w] (bb (decide (z = w))) := by
  have := rSame_m (sg z) (sg w) (dg (ab z)) (dg (ab w)) (by have := len60 hz; omega) (by have := len60 hw; omega)
  simpa only [bigZ_inj] using this

set_option maxHeartbeats 4000000 in
set_option maxRecDepth 20000 in
theorem rCompare_m (z w : Int) (hz : rz z) (hw : rz w) : Means false Tryz.prog 24 [bigZ z, bigZ w] (ii (cmpI z w)) := by
  have hlz := len60 hz
  have hlw := len60 hw
  have hls := rless_m (dg (ab z)) (dg (ab w)) (by omega) (by omega) (okD_dg _) (okD_dg _)
  rw [val_ab, val_ab] at hls
  by_cases he : z = w
  · subst he
    have e : cmpI z z = 0 := (cmpI_zero z z).2 rfl
    have hsm := rSameZ_m z z hz hz
    rw [decide_eq_true rfl] at hsm
    rw [e]
    refine means_fn false 37 [.tmp 4] Tryz.func24 rfl rfl rfl (by simp) (by decide) rfl fun X hX => ?_
    (repeat (first | refine awp_seq ?_ | refine awp_block ?_ | ((first | refine awp_runG [0, 1, 2, 3, 4, 17, 22, 27, 36] hX ?_ | refine awp_drawnG [0, 1, 2, 3, 4, 17, 22, 27, 36] hX mixed ?_ | refine awp_ret ?_ | refine awp_skip ?_ | refine awp_exit ?_); (simp [go_sem]; try (refine ⟨by kernel_rfl, ?_⟩)))))
    first | refine callK_intro (rRight_t z hz) rfl (by simp [go_sem]) rfl ?_ | refine callT_intro (rRight_t z hz) rfl (by simp [go_sem]) rfl ?_
    try (simp [go_sem]; try (refine ⟨by kernel_rfl, ?_⟩))
    first | refine callG_intro (fun hg => rRight_t z hz) rfl (by simp [go_sem]) rfl ?_ | refine callGT_intro (fun hg => rRight_t z hz) rfl (by simp [go_sem]) rfl ?_
    try (simp [go_sem]; try (refine ⟨by kernel_rfl, ?_⟩))
    first | refine callG_intro (fun hg => hsm) rfl (by simp [go_sem]) rfl ?_ | refine callGT_intro (fun hg => hsm) rfl (by simp [go_sem]) rfl ?_
    try (simp [go_sem]; try (refine ⟨by kernel_rfl, ?_⟩))
    refine awp_cond (b := true) (by simp [go_sem]) (fun _ => ?_) (fun h => by cases h)
    (repeat (first | refine awp_seq ?_ | refine awp_block ?_ | ((first | refine awp_runG [0, 1, 2, 3, 4, 17, 22, 27, 36] hX ?_ | refine awp_drawnG [0, 1, 2, 3, 4, 17, 22, 27, 36] hX mixed ?_ | refine awp_ret ?_ | refine awp_skip ?_ | refine awp_exit ?_); (simp [go_sem]; try (refine ⟨by kernel_rfl, ?_⟩)))))
  · have hsm := rSameZ_m z w hz hw
    rw [decide_eq_false he] at hsm
    refine means_fn false 37 [.tmp 4] Tryz.func24 rfl rfl rfl (by simp) (by decide) rfl fun X hX => ?_
    (repeat (first | refine awp_seq ?_ | refine awp_block ?_ | ((first | refine awp_runG [0, 1, 2, 3, 4, 17, 22, 27, 36] hX ?_ | refine awp_drawnG [0, 1, 2, 3, 4, 17, 22, 27, 36] hX mixed ?_ | refine awp_ret ?_ | refine awp_skip ?_ | refine awp_exit ?_); (simp [go_sem]; try (refine ⟨by kernel_rfl, ?_⟩)))))
    first | refine callK_intro (rRight_t z hz) rfl (by simp [go_sem]) rfl ?_ | refine callT_intro (rRight_t z hz) rfl (by simp [go_sem]) rfl ?_
    try (simp [go_sem]; try (refine ⟨by kernel_rfl, ?_⟩))
    first | refine callG_intro (fun hg => rRight_t w hw) rfl (by simp [go_sem]) rfl ?_ | refine callGT_intro (fun hg => rRight_t w hw) rfl (by simp [go_sem]) rfl ?_
    try (simp [go_sem]; try (refine ⟨by kernel_rfl, ?_⟩))
    first | refine callG_intro (fun hg => hsm) rfl (by simp [go_sem]) rfl ?_ | refine callGT_intro (fun hg => hsm) rfl (by simp [go_sem]) rfl ?_
    try (simp [go_sem]; try (refine ⟨by kernel_rfl, ?_⟩))
    refine awp_cond (b := false) (by simp [go_sem]) (fun h => by cases h) (fun _ => ?_)
    (repeat (first | refine awp_seq ?_ | refine awp_block ?_ | ((first | refine awp_runG [0, 1, 2, 3, 4, 17, 22, 27, 36] hX ?_ | refine awp_drawnG [0, 1, 2, 3, 4, 17, 22, 27, 36] hX mixed ?_ | refine awp_ret ?_ | refine awp_skip ?_ | refine awp_exit ?_); (simp [go_sem]; try (refine ⟨by kernel_rfl, ?_⟩)))))
    refine awp_cond (b := decide (sg z ≠ sg w)) (by simp [go_sem]; try omega) (fun hd => ?_) (fun hd => ?_)
    · simp only [decide_eq_true_eq] at hd
      have e : cmpI z w = if sg z < sg w then -1 else 1 := by
        have : cmpI (sg z) (sg w) = cmpI z w := by
          refine cmpI_eq ?_ ?_ <;> rcases sg_cases z with h | h | h <;> rcases sg_cases w with h2 | h2 | h2 <;> omega
        rw [← this]; unfold cmpI; split
        · rfl
        · rw [if_pos (by omega)]
      rw [e]
      (repeat (first | refine awp_seq ?_ | refine awp_block ?_ | ((first | refine awp_runG [0, 1, 2, 3, 4, 17, 22, 27, 36] hX ?_ | refine awp_drawnG [0, 1, 2, 3, 4, 17, 22, 27, 36] hX mixed ?_ | refine awp_ret ?_ | refine awp_skip ?_ | refine awp_exit ?_); (simp [go_sem]; try (refine ⟨by kernel_rfl, ?_⟩)))))
      refine awp_cond (b := decide (sg z < sg w)) (by simp [go_sem]) (fun hf => ?_) (fun hf => ?_)
      · simp at hf
        rw [if_pos hf]
        (repeat (first | refine awp_seq ?_ | refine awp_block ?_ | ((first | refine awp_runG [0, 1, 2, 3, 4, 17, 22, 27, 36] hX ?_ | refine awp_drawnG [0, 1, 2, 3, 4, 17, 22, 27, 36] hX mixed ?_ | refine awp_ret ?_ | refine awp_skip ?_ | refine awp_exit ?_); (simp [go_sem]; try (refine ⟨by kernel_rfl, ?_⟩)))))
      · simp at hf
        rw [if_neg (by omega)]
        (repeat (first | refine awp_seq ?_ | refine awp_block ?_ | ((first | refine awp_runG [0, 1, 2, 3, 4, 17, 22, 27, 36] hX ?_ | refine awp_drawnG [0, 1, 2, 3, 4, 17, 22, 27, 36] hX mixed ?_ | refine awp_ret ?_ | refine awp_skip ?_ | refine awp_exit ?_); (simp [go_sem]; try (refine ⟨by kernel_rfl, ?_⟩)))))
    · simp at hd
      have hs : sg z = 1 ∨ sg z = -1 := by rcases sg_cases z with h | h | h <;> rcases sg_cases w with h2 | h2 | h2 <;> omega
      have e1 : sg z = 1 → ab z < ab w → cmpI z w = -1 := fun h1 h2 => by
        unfold cmpI; rcases sg_cases z with h | h | h <;> rcases sg_cases w with h3 | h3 | h3 <;> first | omega | (rw [if_pos (by omega)])
      have e2 : sg z = 1 → ¬ ab z < ab w → cmpI z w = 1 := fun h1 h2 => by
        unfold cmpI; rcases sg_cases z with h | h | h <;> rcases sg_cases w with h3 | h3 | h3 <;> first | omega | (rw [if_neg (by omega), if_pos (by omega)])
      have e3 : sg z = -1 → ab z < ab w → cmpI z w = 1 := fun h1 h2 => by
        unfold cmpI; rcases sg_cases z with h | h | h <;> rcases sg_cases w with h3 | h3 | h3 <;> first | omega | (rw [if_neg (by omega), if_pos (by omega)])
      have e4 : sg z = -1 → ¬ ab z < ab w → cmpI z w = -1 := fun h1 h2 => by
        unfold cmpI; rcases sg_cases z with h | h | h <;> rcases sg_cases w with h3 | h3 | h3 <;> first | omega | (rw [if_pos (by omega)])
      by_cases hlt : ab z < ab w
      · rw [decide_eq_true hlt] at hls
        rcases hs with hs | hs
        · rw [e1 hs hlt]
          (repeat (first | refine awp_seq ?_ | refine awp_block ?_ | ((first | refine awp_runG [0, 1, 2, 3, 4, 17, 22, 27, 36] hX ?_ | refine awp_drawnG [0, 1, 2, 3, 4, 17, 22, 27, 36] hX mixed ?_ | refine awp_ret ?_ | refine awp_skip ?_ | refine awp_exit ?_); (simp [go_sem]; try (refine ⟨by kernel_rfl, ?_⟩)))))
          first | refine callK_intro (hls) rfl (by simp [go_sem]) rfl ?_ | refine callT_intro (hls) rfl (by simp [go_sem]) rfl ?_
          try (simp [go_sem]; try (refine ⟨by kernel_rfl, ?_⟩))
          refine awp_cond (b := true) (by simp [go_sem, hs]) (fun _ => ?_) (fun h => by cases h)
          (repeat (first | refine awp_seq ?_ | refine awp_block ?_ | ((first | refine awp_runG [0, 1, 2, 3, 4, 17, 22, 27, 36] hX ?_ | refine awp_drawnG [0, 1, 2, 3, 4, 17, 22, 27, 36] hX mixed ?_ | refine awp_ret ?_ | refine awp_skip ?_ | refine awp_exit ?_); (simp [go_sem]; try (refine ⟨by kernel_rfl, ?_⟩)))))
        · rw [e3 hs hlt]
          (repeat (first | refine awp_seq ?_ | refine awp_block ?_ | ((first | refine awp_runG [0, 1, 2, 3, 4, 17, 22, 27, 36] hX ?_ | refine awp_drawnG [0, 1, 2, 3, 4, 17, 22, 27, 36] hX mixed ?_ | refine awp_ret ?_ | refine awp_skip ?_ | refine awp_exit ?_); (simp [go_sem]; try (refine ⟨by kernel_rfl, ?_⟩)))))
          first | refine callK_intro (hls) rfl (by simp [go_sem]) rfl ?_ | refine callT_intro (hls) rfl (by simp [go_sem]) rfl ?_
          try (simp [go_sem]; try (refine ⟨by kernel_rfl, ?_⟩))
          refine awp_cond (b := false) (by simp [go_sem, hs]) (fun h => by cases h) (fun _ => ?_)
          (repeat (first | refine awp_seq ?_ | refine awp_block ?_ | ((first | refine awp_runG [0, 1, 2, 3, 4, 17, 22, 27, 36] hX ?_ | refine awp_drawnG [0, 1, 2, 3, 4, 17, 22, 27, 36] hX mixed ?_ | refine awp_ret ?_ | refine awp_skip ?_ | refine awp_exit ?_); (simp [go_sem]; try (refine ⟨by kernel_rfl, ?_⟩)))))
      · rw [decide_eq_false hlt] at hls
        rcases hs with hs | hs
        · rw [e2 hs hlt]
          (repeat (first | refine awp_seq ?_ | refine awp_block ?_ | ((first | refine awp_runG [0, 1, 2, 3, 4, 17, 22, 27, 36] hX ?_ | refine awp_drawnG [0, 1, 2, 3, 4, 17, 22, 27, 36] hX mixed ?_ | refine awp_ret ?_ | refine awp_skip ?_ | refine awp_exit ?_); (simp [go_sem]; try (refine ⟨by kernel_rfl, ?_⟩)))))
          first | refine callK_intro (hls) rfl (by simp [go_sem]) rfl ?_ | refine callT_intro (hls) rfl (by simp [go_sem]) rfl ?_
          try (simp [go_sem]; try (refine ⟨by kernel_rfl, ?_⟩))
          refine awp_cond (b := false) (by simp [go_sem, hs]) (fun h => by cases h) (fun _ => ?_)
          (repeat (first | refine awp_seq ?_ | refine awp_block ?_ | ((first | refine awp_runG [0, 1, 2, 3, 4, 17, 22, 27, 36] hX ?_ | refine awp_drawnG [0, 1, 2, 3, 4, 17, 22, 27, 36] hX mixed ?_ | refine awp_ret ?_ | refine awp_skip ?_ | refine awp_exit ?_); (simp [go_sem]; try (refine ⟨by kernel_rfl, ?_⟩)))))
        · rw [e4 hs hlt]
          (repeat (first | refine awp_seq ?_ | refine awp_block ?_ | ((first | refine awp_runG [0, 1, 2, 3, 4, 17, 22, 27, 36] hX ?_ | refine awp_drawnG [0, 1, 2, 3, 4, 17, 22, 27, 36] hX mixed ?_ | refine awp_ret ?_ | refine awp_skip ?_ | refine awp_exit ?_); (simp [go_sem]; try (refine ⟨by kernel_rfl, ?_⟩)))))
          first | refine callK_intro (hls) rfl (by simp [go_sem]) rfl ?_ | refine callT_intro (hls) rfl (by simp [go_sem]) rfl ?_
          try (simp [go_sem]; try (refine ⟨by kernel_rfl, ?_⟩))
          refine awp_cond (b := true) (by simp [go_sem, hs]) (fun _ => ?_) (fun h => by cases h)
          (repeat (first | refine awp_seq ?_ | refine awp_block ?_ | ((first | refine awp_runG [0, 1, 2, 3, 4, 17, 22, 27, 36] hX ?_ | refine awp_drawnG [0, 1, 2, 3, 4, 17, 22, 27, 36] hX mixed ?_ | refine awp_ret ?_ | refine awp_skip ?_ | refine awp_exit ?_); (simp [go_sem]; try (refine ⟨by kernel_rfl, ?_⟩)))))

theorem prefix_bd {L : List Int} (h : okD L) (k : Nat) : 0 ≤ val (L.drop k) ∧ val (L.drop k) ≤ val L := by
  have e := val_parts k L
  have h1 := val_nonneg (okD_take h k)
  have h2 := val_nonneg (okD_drop h k)
  have hp := pow_pos' k
  have := Int.mul_le_mul_of_nonneg_right (show 1 ≤ (1048576 : Int) ^ k by omega) h2
  rw [Int.one_mul] at this
  omega

set_option maxHeartbeats 4000000 in
set_option maxRecDepth 20000 in
theorem rInt_m (z : Int) (hz : rz z) : Means false Tryz.prog 16 [bigZ z] (.tup [ii (if inI z then z else 0), bb (inI z)]) := by
  have hlz := len60 hz
  have hab := ab_nonneg z
  have hva := val_ab z
  have hok := okD_dg (ab z)
  have hc1 := rCompare_m z (-9223372036854775808) hz (rz_i (by omega))
  have hc2 := rCompare_m z 9223372036854775807 hz (rz_i (by omega))
  have b1 : decide (cmpI z (-9223372036854775808) < 0) = decide (z < -9223372036854775808) := by rw [decide_eq_decide]; exact cmpI_lt
  have b2 : decide (0 < cmpI z 9223372036854775807) = decide (9223372036854775807 < z) := by
    rw [decide_eq_decide]; rw [cmpI_neg 9223372036854775807 z]
    have := cmpI_lt (x := 9223372036854775807) (y := z); omega
  have n1 := cmpI_bd z (-9223372036854775808)
  have n2 := cmpI_bd z 9223372036854775807
  have hinI : inI z = (!decide (z < -9223372036854775808) && !decide (9223372036854775807 < z)) := by
    unfold inI; by_cases q1 : z < -9223372036854775808 <;> by_cases q2 : 9223372036854775807 < z <;> simp [q1, q2] <;> omega
  generalize cmpI z (-9223372036854775808) = c1 at *
  generalize cmpI z 9223372036854775807 = c2 at *
  refine means_fn false 41 [.tmp 2, .tmp 3] Tryz.func16 rfl rfl rfl (by simp) (by decide) rfl fun X hX => ?_
  (repeat (first | refine awp_seq ?_ | refine awp_block ?_ | ((first | refine awp_runG [0, 1, 2, 3, 4, 5, 6, 9, 20, 26] hX ?_ | refine awp_drawnG [0, 1, 2, 3, 4, 5, 6, 9, 20, 26] hX mixed ?_ | refine awp_ret ?_ | refine awp_skip ?_ | refine awp_exit ?_); (simp [go_sem]; try (refine ⟨by kernel_rfl, ?_⟩)))))
  first | refine callK_intro (rRight_t z hz) rfl (by simp [go_sem]) rfl ?_ | refine callT_intro (rRight_t z hz) rfl (by simp [go_sem]) rfl ?_
  try (simp [go_sem]; try (refine ⟨by kernel_rfl, ?_⟩))
  refine awp_cond (b := false) (by simp [go_sem]) (fun h => by cases h) (fun _ => ?_)
  (repeat (first | refine awp_seq ?_ | refine awp_block ?_ | ((first | refine awp_runG [0, 1, 2, 3, 4, 5, 6, 9, 20, 26] hX ?_ | refine awp_drawnG [0, 1, 2, 3, 4, 5, 6, 9, 20, 26] hX mixed ?_ | refine awp_ret ?_ | refine awp_skip ?_ | refine awp_exit ?_); (simp [go_sem]; try (refine ⟨by kernel_rfl, ?_⟩)))))
  first | refine callK_intro (rOf_m (-9223372036854775808) (by omega)) rfl (by simp [go_sem]) rfl ?_ | refine callT_intro (rOf_m (-9223372036854775808) (by omega)) rfl (by simp [go_sem]) rfl ?_
  try (simp [go_sem]; try (refine ⟨by kernel_rfl, ?_⟩))
  first | refine callK_intro (hc1) rfl (by simp [go_sem]) rfl ?_ | refine callT_intro (hc1) rfl (by simp [go_sem]) rfl ?_
  try (simp [go_sem]; try (refine ⟨by kernel_rfl, ?_⟩))
  first | refine callG_intro (fun hg => rOf_m 9223372036854775807 (by omega)) rfl (by simp [go_sem]) rfl ?_ | refine callGT_intro (fun hg => rOf_m 9223372036854775807 (by omega)) rfl (by simp [go_sem]) rfl ?_
  try (simp [go_sem]; try (refine ⟨by kernel_rfl, ?_⟩))
  first | refine callG_intro (fun hg => hc2) rfl (by simp [go_sem]) rfl ?_ | refine callGT_intro (fun hg => hc2) rfl (by simp [go_sem]) rfl ?_
  try (simp [go_sem]; try (refine ⟨by kernel_rfl, ?_⟩))
  by_cases q1 : z < -9223372036854775808
  · have e : inI z = false := by rw [hinI]; simp [q1]
    rw [e]
    have hcn : c1 < 0 := by simpa [q1] using b1
    refine awp_cond (b := true) (by simp [go_sem, hcn]) (fun _ => ?_) (fun h => by cases h)
    (repeat (first | refine awp_seq ?_ | refine awp_block ?_ | ((first | refine awp_runG [0, 1, 2, 3, 4, 5, 6, 9, 20, 26] hX ?_ | refine awp_drawnG [0, 1, 2, 3, 4, 5, 6, 9, 20, 26] hX mixed ?_ | refine awp_ret ?_ | refine awp_skip ?_ | refine awp_exit ?_); (simp [go_sem]; try (refine ⟨by kernel_rfl, ?_⟩)))))
  have hcn : ¬ c1 < 0 := by simpa [q1] using b1
  by_cases q2 : 9223372036854775807 < z
  · have e : inI z = false := by rw [hinI]; simp [q2]
    rw [e]
    have hcm : 0 < c2 := by simpa [q2] using b2
    refine awp_cond (b := true) (by simp [go_sem, hcn, hcm]) (fun _ => ?_) (fun h => by cases h)
    (repeat (first | refine awp_seq ?_ | refine awp_block ?_ | ((first | refine awp_runG [0, 1, 2, 3, 4, 5, 6, 9, 20, 26] hX ?_ | refine awp_drawnG [0, 1, 2, 3, 4, 5, 6, 9, 20, 26] hX mixed ?_ | refine awp_ret ?_ | refine awp_skip ?_ | refine awp_exit ?_); (simp [go_sem]; try (refine ⟨by kernel_rfl, ?_⟩)))))
  have hcm : ¬ 0 < c2 := by simpa [q2] using b2
  refine awp_cond (b := false) (by simp [go_sem, hcn, hcm]; try omega) (fun h => by cases h) (fun _ => ?_)
  have e : inI z = true := by rw [hinI]; simp [q1, q2]
  rw [e, if_pos rfl]
  have hpre := prefix_bd hok
  rw [hva] at hpre
  have hz0 : sg z * ab z = z := sg_ab z
  have hdr := val_drop (dg (ab z))
  have hsc : sg z = 1 ∨ sg z = 0 ∨ sg z = -1 := by rcases sg_cases z with h | h | h <;> omega
  have hw0 := w64 (x := ((dg (ab z)).length : Int) - 1) (by omega) (by omega)
  have hs1 : ab z ≤ 9223372036854775808 ∧ (sg z = 1 → ab z ≤ 9223372036854775807) := by rcases sg_cases z with h | h | h <;> omega
  (repeat (first | refine awp_seq ?_ | refine awp_block ?_ | ((first | refine awp_runG [0, 1, 2, 3, 4, 5, 6, 9, 20, 26] hX ?_ | refine awp_drawnG [0, 1, 2, 3, 4, 5, 6, 9, 20, 26] hX mixed ?_ | refine awp_ret ?_ | refine awp_skip ?_ | refine awp_exit ?_); (simp [go_sem, hw0]; try (refine ⟨by kernel_rfl, ?_⟩)))))
  refine awp_loop (fun k : Nat => ⟨mkE [(1, .el 0 2 0 0), (5, ii (sg z * val ((dg (ab z)).drop k))), (6, ii ((k : Int) - 1))], [.row ⟨24, 2, [bigZ z]⟩]⟩) (fun k => k ≤ (dg (ab z)).length) (fun k => k) (dg (ab z)).length ?_ ?_ ?_
  · refine sub_of _ [.old 0 ⟨24, 2, [bigZ z]⟩] (by simp [go_sem]) ?_
    simp [go_sem, val]
  · exact Nat.le_refl _
  · intro k hk
    cases k with
    | zero =>
      simp only [List.drop_zero]
      rw [hva, hz0]
      (repeat (first | refine awp_seq ?_ | refine awp_block ?_ | ((first | refine awp_runG [0, 1, 2, 3, 4, 5, 6, 9, 20, 26] hX ?_ | refine awp_drawnG [0, 1, 2, 3, 4, 5, 6, 9, 20, 26] hX mixed ?_ | refine awp_ret ?_ | refine awp_skip ?_ | refine awp_exit ?_); (simp [go_sem]; try (refine ⟨by kernel_rfl, ?_⟩)))))
      refine awp_cond (b := false) (by simp [go_sem]) (fun h => by cases h) (fun _ => ?_)
      (repeat (first | refine awp_seq ?_ | refine awp_block ?_ | ((first | refine awp_runG [0, 1, 2, 3, 4, 5, 6, 9, 20, 26] hX ?_ | refine awp_drawnG [0, 1, 2, 3, 4, 5, 6, 9, 20, 26] hX mixed ?_ | refine awp_ret ?_ | refine awp_skip ?_ | refine awp_exit ?_); (simp [go_sem]; try (refine ⟨by kernel_rfl, ?_⟩)))))
    | succ k =>
      have hk1 : k < (dg (ab z)).length := by omega
      have h1 := hpre (k + 1)
      have h0 := hpre k
      have hd0 := hdr k
      rw [dgt_lt hk1] at hd0
      have hdb := okD_at hok hk1
      have hki : ((k + 1 : Nat) : Int) - 1 = k := by omega
      rw [hki]
      obtain ⟨d, hd⟩ : ∃ d, (dg (ab z))[k] = d := ⟨_, rfl⟩
      rw [hd] at hd0 hdb
      obtain ⟨D1, hD1⟩ : ∃ D1, val ((dg (ab z)).drop (k + 1)) = D1 := ⟨_, rfl⟩
      obtain ⟨D0, hD0⟩ : ∃ D0, val ((dg (ab z)).drop k) = D0 := ⟨_, rfl⟩
      rw [hD1] at h1 hd0
      rw [hD0] at h0 hd0
      have hw1 := w64 (x := sg z * D1 * 1048576) (by rcases hsc with q | q | q <;> rw [q] <;> omega) (by rcases hsc with q | q | q <;> rw [q] <;> omega)
      have hw2 := w64 (x := sg z * d) (by rcases hsc with q | q | q <;> rw [q] <;> omega) (by rcases hsc with q | q | q <;> rw [q] <;> omega)
      have hsum : sg z * D1 * 1048576 + sg z * d = sg z * D0 := by rcases hsc with q | q | q <;> rw [q] <;> omega
      have hw3 := w64 (x := sg z * D0) (by rcases hsc with q | q | q <;> rw [q] <;> omega) (by rcases hsc with q | q | q <;> rw [q] <;> omega)
      have hw4 := w64 (x := (k : Int) - 1) (by omega) (by omega)
      (repeat (first | refine awp_seq ?_ | refine awp_block ?_ | ((first | refine awp_runG [0, 1, 2, 3, 4, 5, 6, 9, 20, 26] hX ?_ | refine awp_drawnG [0, 1, 2, 3, 4, 5, 6, 9, 20, 26] hX mixed ?_ | refine awp_ret ?_ | refine awp_skip ?_ | refine awp_exit ?_); (simp [go_sem]; try (refine ⟨by kernel_rfl, ?_⟩)))))
      refine awp_cond (b := true) (by simp [go_sem]) (fun _ => ?_) (fun h => by cases h)
      (repeat (first | refine awp_seq ?_ | refine awp_block ?_ | ((first | refine awp_runG [0, 1, 2, 3, 4, 5, 6, 9, 20, 26] hX ?_ | refine awp_drawnG [0, 1, 2, 3, 4, 5, 6, 9, 20, 26] hX mixed ?_ | refine awp_ret ?_ | refine awp_skip ?_ | refine awp_exit ?_); (simp [go_sem, hD1, hk1, hd, hw1, hw2, hsum, hw3, hw4]; try (refine ⟨by kernel_rfl, ?_⟩)))))
      refine ⟨k, by omega, by omega, ?_⟩
      refine sub_of _ [.old 0 ⟨24, 2, [bigZ z]⟩] (by simp [go_sem]) ?_
      simp [go_sem, hD0]

theorem dg_len_lt {n B : Int} {k : Nat} (h0 : 0 ≤ n) (h : n < B) (hB : B < 1048576 ^ k) : (dg n).length ≤ k := by
  rw [dg_len_iff]; omega
/-- The digits of the rest behind the next digit. -/
theorem over_step {A' B q r d lo : Int} (hB : 0 < B) (h1 : B * q + r = A') (hr : 0 ≤ r ∧ r < B) (h2 : lo * B ≤ d + 1048576 * r) (h3 : d + 1048576 * r < (lo + 1) * B) :
    B * (lo + 1048576 * q) + (d + 1048576 * r - B * lo) = d + 1048576 * A' ∧ 0 ≤ d + 1048576 * r - B * lo ∧ d + 1048576 * r - B * lo < B := by
  subst h1
  rw [Int.add_mul, Int.one_mul] at h3
  rw [Int.mul_comm lo B] at h2 h3
  refine ⟨?_, by omega, by omega⟩
  rw [Int.mul_add, Int.mul_add, Int.mul_left_comm B 1048576 q]; omega

set_option maxHeartbeats 8000000 in
set_option maxRecDepth 20000 in
theorem rover_m (a b : List Int) (hla : a.length ≤ 500) (hlb : b.length ≤ 500) (ha : okD a) (hb : okD b) (hB : 0 < val b) : Means false Tryz.prog 47 [il a, il b] (.tup [il (dg (val a / val b)), il (dg (val a % val b))]) := by
  have hbl := val_lt hb
  have hw0 := w64 (x := (a.length : Int) - 1) (by omega) (by omega)
  obtain ⟨B, hBe⟩ : ∃ B, val b = B := ⟨_, rfl⟩
  rw [hBe] at hB hbl ⊢
  refine means_fn false 60 [.tmp 4, .tmp 5] Tryz.func47 rfl rfl rfl (by simp) (by decide) rfl fun X hX => ?_
  (repeat (first | refine awp_seq ?_ | refine awp_block ?_ | ((first | refine awp_runG [0, 1, 4, 5, 6, 7, 8, 9, 10, 11, 19, 33, 43] hX ?_ | refine awp_drawnG [0, 1, 4, 5, 6, 7, 8, 9, 10, 11, 19, 33, 43] hX mixed ?_ | refine awp_ret ?_ | refine awp_skip ?_ | refine awp_exit ?_); (simp [go_sem]; try (refine ⟨by kernel_rfl, ?_⟩)))))
  try (repeat refine And.intro (by first | omega | (unfold maxLen; omega) | kernel_rfl | (refine ⟨by first | omega | (unfold maxLen; omega), by first | omega | (unfold maxLen; omega)⟩) | grind) ?_)
  try (repeat (first | refine awp_seq ?_ | refine awp_block ?_ | ((first | refine awp_runG [0, 1, 4, 5, 6, 7, 8, 9, 10, 11, 19, 33, 43] hX ?_ | refine awp_drawnG [0, 1, 4, 5, 6, 7, 8, 9, 10, 11, 19, 33, 43] hX mixed ?_ | refine awp_ret ?_ | refine awp_skip ?_ | refine awp_exit ?_); (simp [go_sem, hw0]; try (refine ⟨by kernel_rfl, ?_⟩)))))
  refine awp_loop (fun x : Nat × List Int × Int => ⟨mkE [(0, il a), (1, il b), (6, .ow 0), (7, il (dg x.2.2)), (8, ii ((x.1 : Int) - 1))], [rowI (List.replicate x.1 (0 : Int) ++ x.2.1)]⟩)
    (fun x => x.1 ≤ a.length ∧ okD x.2.1 ∧ x.1 + x.2.1.length = a.length ∧ 0 ≤ x.2.2 ∧ x.2.2 < B ∧ B * val x.2.1 + x.2.2 = val (a.drop x.1)) (fun x => x.1) (a.length, [], 0) ?_ ?_ ?_
  · refine sub_of _ [.old 0 ⟨3, 1, (List.replicate a.length (0 : Int) ++ []).map ii⟩] ?_ ?_
    · simp [go_sem, List.map_replicate]
    · simp [go_sem, dg_zero]
  · refine ⟨Nat.le_refl _, okD_nil, by simp, Int.le_refl _, hB, ?_⟩
    simp [val]
  · rintro ⟨i, Q, r⟩ ⟨h1, h2, h3, h4, h5, h6⟩
    simp only [] at h1 h2 h3 h4 h5 h6
    cases i with
    | zero =>
      simp only [List.replicate_zero, List.nil_append, List.drop_zero] at h6 ⊢
      have hq : val a / B = val Q ∧ val a % B = r := (Int.ediv_emod_unique hB).2 ⟨by omega, h4, h5⟩
      rw [hq.1, hq.2]
      (repeat (first | refine awp_seq ?_ | refine awp_block ?_ | ((first | refine awp_runG [0, 1, 4, 5, 6, 7, 8, 9, 10, 11, 19, 33, 43] hX ?_ | refine awp_drawnG [0, 1, 4, 5, 6, 7, 8, 9, 10, 11, 19, 33, 43] hX mixed ?_ | refine awp_ret ?_ | refine awp_skip ?_ | refine awp_exit ?_); (simp [go_sem]; try (refine ⟨by kernel_rfl, ?_⟩)))))
      refine awp_cond (b := false) (by simp [go_sem]) (fun h => by cases h) (fun _ => ?_)
      (repeat (first | refine awp_seq ?_ | refine awp_block ?_ | ((first | refine awp_runG [0, 1, 4, 5, 6, 7, 8, 9, 10, 11, 19, 33, 43] hX ?_ | refine awp_drawnG [0, 1, 4, 5, 6, 7, 8, 9, 10, 11, 19, 33, 43] hX mixed ?_ | refine awp_ret ?_ | refine awp_skip ?_ | refine awp_exit ?_); (simp [go_sem]; try (refine ⟨by kernel_rfl, ?_⟩)))))
      first | refine callK_intro (rtrim_m Q (by omega) h2) rfl (by simp [go_sem]) rfl ?_ | refine callT_intro (rtrim_m Q (by omega) h2) rfl (by simp [go_sem]) rfl ?_
      try (simp [go_sem]; try (refine ⟨by kernel_rfl, ?_⟩))
      (repeat (first | refine awp_seq ?_ | refine awp_block ?_ | ((first | refine awp_runG [0, 1, 4, 5, 6, 7, 8, 9, 10, 11, 19, 33, 43] hX ?_ | refine awp_drawnG [0, 1, 4, 5, 6, 7, 8, 9, 10, 11, 19, 33, 43] hX mixed ?_ | refine awp_ret ?_ | refine awp_skip ?_ | refine awp_exit ?_); (simp [go_sem]; try (refine ⟨by kernel_rfl, ?_⟩)))))
    | succ i =>
      have hi : i < a.length := by omega
      have hii : ((i + 1 : Nat) : Int) - 1 = i := by omega
      have hd0 := val_drop a i
      rw [dgt_lt hi] at hd0
      have hdb := okD_at ha hi
      rw [hii]
      obtain ⟨d, hd⟩ : ∃ d, a[i] = d := ⟨_, rfl⟩
      rw [hd] at hd0 hdb
      have hrl : (dg r).length ≤ b.length := dg_len_lt h4 h5 hbl
      have hokr : okD (d :: dg r) := okD_cons.2 ⟨hdb, okD_dg r⟩
      have hvr : val (d :: dg r) = d + 1048576 * r := by simp only [val]; rw [val_dg h4]
      have ht := rtrim_m (d :: dg r) (by simp only [List.length_cons]; omega) hokr
      rw [hvr] at ht
      have hYb : 0 ≤ d + 1048576 * r ∧ d + 1048576 * r < 1048576 * B := by omega
      have hstep := fun lo => over_step (d := d) (lo := lo) hB h6 ⟨h4, h5⟩
      have hXl : (dg (d + 1048576 * r)).length ≤ b.length + 1 := by
        refine dg_len_lt hYb.1 hYb.2 ?_
        rw [Int.pow_succ]; omega
      obtain ⟨Y, hXe⟩ : ∃ Y, d + 1048576 * r = Y := ⟨_, rfl⟩
      rw [hXe] at ht hYb hXl
      simp only [hXe] at hstep
      (repeat (first | refine awp_seq ?_ | refine awp_block ?_ | ((first | refine awp_runG [0, 1, 4, 5, 6, 7, 8, 9, 10, 11, 19, 33, 43] hX ?_ | refine awp_drawnG [0, 1, 4, 5, 6, 7, 8, 9, 10, 11, 19, 33, 43] hX mixed ?_ | refine awp_ret ?_ | refine awp_skip ?_ | refine awp_exit ?_); (simp [go_sem]; try (refine ⟨by kernel_rfl, ?_⟩)))))
      refine awp_cond (b := true) (by simp [go_sem]; try omega) (fun _ => ?_) (fun h => by cases h)
      (repeat (first | refine awp_seq ?_ | refine awp_block ?_ | ((first | refine awp_runG [0, 1, 4, 5, 6, 7, 8, 9, 10, 11, 19, 33, 43] hX ?_ | refine awp_drawnG [0, 1, 4, 5, 6, 7, 8, 9, 10, 11, 19, 33, 43] hX mixed ?_ | refine awp_ret ?_ | refine awp_skip ?_ | refine awp_exit ?_); (simp [go_sem, hi, hd]; try (refine ⟨by kernel_rfl, ?_⟩)))))
      try (repeat refine And.intro (by first | omega | (unfold maxLen; omega) | kernel_rfl | (refine ⟨by first | omega | (unfold maxLen; omega), by first | omega | (unfold maxLen; omega)⟩) | grind) ?_)
      try (repeat (first | refine awp_seq ?_ | refine awp_block ?_ | ((first | refine awp_runG [0, 1, 4, 5, 6, 7, 8, 9, 10, 11, 19, 33, 43] hX ?_ | refine awp_drawnG [0, 1, 4, 5, 6, 7, 8, 9, 10, 11, 19, 33, 43] hX mixed ?_ | refine awp_ret ?_ | refine awp_skip ?_ | refine awp_exit ?_); (simp [go_sem, hi, hd]; try (refine ⟨by kernel_rfl, ?_⟩)))))
      first | refine callK_intro (ht) rfl (by simp [go_sem]) rfl ?_ | refine callT_intro (ht) rfl (by simp [go_sem]) rfl ?_
      try (simp [go_sem]; try (refine ⟨by kernel_rfl, ?_⟩))
      (repeat (first | refine awp_seq ?_ | refine awp_block ?_ | ((first | refine awp_runG [0, 1, 4, 5, 6, 7, 8, 9, 10, 11, 19, 33, 43] hX ?_ | refine awp_drawnG [0, 1, 4, 5, 6, 7, 8, 9, 10, 11, 19, 33, 43] hX mixed ?_ | refine awp_ret ?_ | refine awp_skip ?_ | refine awp_exit ?_); (simp [go_sem]; try (refine ⟨by kernel_rfl, ?_⟩)))))
      refine awp_loop (fun y : Int × Int => ⟨mkE [(0, il a), (1, il b), (6, .ow 0), (7, il (dg Y)), (8, ii i), (9, ii y.1), (10, ii y.2)], [rowI (List.replicate (i + 1) 0 ++ Q)]⟩)
        (fun y => 0 ≤ y.1 ∧ y.1 < y.2 ∧ y.2 ≤ 1048576 ∧ y.1 * B ≤ Y ∧ Y < y.2 * B) (fun y => (y.2 - y.1).toNat) (0, 1048576) ?_ ?_ ?_
      · refine sub_of _ [.old 0 ⟨3, 1, (List.replicate (i + 1) (0 : Int) ++ Q).map ii⟩] (by simp [go_sem]) ?_
        simp [go_sem]
      · refine ⟨by simp, by simp, by simp, by simp; omega, ?_⟩
        show Y < 1048576 * B
        omega
      · rintro ⟨lo, hi'⟩ ⟨g1, g2, g3, g4, g5⟩
        simp only [] at g1 g2 g3 g4 g5
        have wd := w64 (x := hi' - lo) (by omega) (by omega)
        have ws := w64 (x := lo + hi') (by omega) (by omega)
        (repeat (first | refine awp_seq ?_ | refine awp_block ?_ | ((first | refine awp_runG [0, 1, 4, 5, 6, 7, 8, 9, 10, 11, 19, 33, 43] hX ?_ | refine awp_drawnG [0, 1, 4, 5, 6, 7, 8, 9, 10, 11, 19, 33, 43] hX mixed ?_ | refine awp_ret ?_ | refine awp_skip ?_ | refine awp_exit ?_); (simp [go_sem, wd]; try (refine ⟨by kernel_rfl, ?_⟩)))))
        refine awp_cond (b := decide (1 < hi' - lo)) (by simp [go_sem, wd]) (fun hc => ?_) (fun hc => ?_)
        · simp only [decide_eq_true_eq] at hc
          have hmd : (lo + hi').tdiv 2 = (lo + hi') / 2 := Int.tdiv_eq_ediv_of_nonneg (by omega)
          obtain ⟨m, hm⟩ : ∃ m, (lo + hi') / 2 = m := ⟨_, rfl⟩
          rw [hm] at hmd
          have hmb : lo < m ∧ m < hi' := by omega
          have wm := w64 (x := m) (by omega) (by omega)
          have htm := rtimes_m b [m] (by omega) (by simp) hb (okD_cons.2 ⟨by omega, okD_nil⟩)
          have hvm : val b * val [m] = m * B := by simp [val, hBe, Int.mul_comm]
          rw [hvm] at htm
          have hmB : 0 ≤ m * B := Int.mul_nonneg (by omega) (by omega)
          have hmB2 : (dg (m * B)).length ≤ b.length + 1 := by
            refine dg_len_lt hmB (B := 1048576 * B) ?_ (by rw [Int.pow_succ]; omega)
            exact Int.mul_lt_mul_of_pos_right (by omega) hB
          have hls := rless_m (dg Y) (dg (m * B)) (by omega) (by omega) (okD_dg _) (okD_dg _)
          rw [val_dg hYb.1, val_dg hmB] at hls
          (repeat (first | refine awp_seq ?_ | refine awp_block ?_ | ((first | refine awp_runG [0, 1, 4, 5, 6, 7, 8, 9, 10, 11, 19, 33, 43] hX ?_ | refine awp_drawnG [0, 1, 4, 5, 6, 7, 8, 9, 10, 11, 19, 33, 43] hX mixed ?_ | refine awp_ret ?_ | refine awp_skip ?_ | refine awp_exit ?_); (simp [go_sem, ws, hmd, wm]; try (refine ⟨by kernel_rfl, ?_⟩)))))
          refine callKk_intro (htm) rfl rfl ?_
          try (simp [go_sem]; try (refine ⟨by kernel_rfl, ?_⟩))
          first | refine callK_intro (hls) rfl (by simp [go_sem]) rfl ?_ | refine callT_intro (hls) rfl (by simp [go_sem]) rfl ?_
          try (simp [go_sem]; try (refine ⟨by kernel_rfl, ?_⟩))
          refine awp_cond (b := decide (Y < m * B)) (by simp [go_sem]) (fun hf => ?_) (fun hf => ?_)
          · simp only [decide_eq_true_eq] at hf
            (repeat (first | refine awp_seq ?_ | refine awp_block ?_ | ((first | refine awp_runG [0, 1, 4, 5, 6, 7, 8, 9, 10, 11, 19, 33, 43] hX ?_ | refine awp_drawnG [0, 1, 4, 5, 6, 7, 8, 9, 10, 11, 19, 33, 43] hX mixed ?_ | refine awp_ret ?_ | refine awp_skip ?_ | refine awp_exit ?_); (simp [go_sem]; try (refine ⟨by kernel_rfl, ?_⟩)))))
            refine ⟨lo, m, ⟨by omega, by omega, by omega, by omega, by omega⟩, by omega, ?_⟩
            refine sub_of _ [.old 0 ⟨3, 1, (List.replicate (i + 1) (0 : Int) ++ Q).map ii⟩] (by simp [go_sem]) ?_
            simp [go_sem]
          · simp only [decide_eq_false_iff_not] at hf
            (repeat (first | refine awp_seq ?_ | refine awp_block ?_ | ((first | refine awp_runG [0, 1, 4, 5, 6, 7, 8, 9, 10, 11, 19, 33, 43] hX ?_ | refine awp_drawnG [0, 1, 4, 5, 6, 7, 8, 9, 10, 11, 19, 33, 43] hX mixed ?_ | refine awp_ret ?_ | refine awp_skip ?_ | refine awp_exit ?_); (simp [go_sem]; try (refine ⟨by kernel_rfl, ?_⟩)))))
            refine ⟨m, hi', ⟨by omega, by omega, by omega, by omega, by omega⟩, by omega, ?_⟩
            refine sub_of _ [.old 0 ⟨3, 1, (List.replicate (i + 1) (0 : Int) ++ Q).map ii⟩] (by simp [go_sem]) ?_
            simp [go_sem]
        · simp only [decide_eq_false_iff_not] at hc
          have e : hi' = lo + 1 := by omega
          subst e
          obtain ⟨s1, s2, s3⟩ := hstep lo g4 g5
          have htl := rtrim_m [lo] (by simp) (okD_cons.2 ⟨by omega, okD_nil⟩)
          have hvl : val [lo] = lo := by simp [val]
          rw [hvl] at htl
          have hll : (dg lo).length ≤ 1 := by rw [dg_len_iff]; omega
          have htm := rtimes_m b (dg lo) (by omega) (by omega) hb (okD_dg _)
          rw [val_dg g1, hBe] at htm
          have hBl : 0 ≤ B * lo := Int.mul_nonneg (by omega) g1
          have hBl2 : (dg (B * lo)).length ≤ b.length + 1 := dg_len_lt hBl (B := 1048576 * B) (by omega) (by rw [Int.pow_succ]; omega)
          have hmn := rminus_m (dg Y) (dg (B * lo)) (by omega) (by omega) (okD_dg _) (okD_dg _) (by rw [val_dg hYb.1, val_dg hBl]; omega)
          rw [val_dg hYb.1, val_dg hBl] at hmn
          have hrep : List.replicate (i + 1) (0 : Int) ++ Q = List.replicate i 0 ++ 0 :: Q := by rw [List.replicate_succ', List.append_assoc]; rfl
          have hset : (List.replicate (i + 1) (0 : Int) ++ Q).set i lo = List.replicate i 0 ++ lo :: Q := by
            rw [hrep, List.set_append_right _ _ (by simp)]; simp
          have hil : i < (List.replicate (i + 1) (0 : Int) ++ Q).length := by simp; omega
          have wi := w64 (x := (i : Int) - 1) (by omega) (by omega)
          generalize hR : List.replicate (i + 1) (0 : Int) ++ Q = R at *
          (repeat (first | refine awp_seq ?_ | refine awp_block ?_ | ((first | refine awp_runG [0, 1, 4, 5, 6, 7, 8, 9, 10, 11, 19, 33, 43] hX ?_ | refine awp_drawnG [0, 1, 4, 5, 6, 7, 8, 9, 10, 11, 19, 33, 43] hX mixed ?_ | refine awp_ret ?_ | refine awp_skip ?_ | refine awp_exit ?_); (simp [go_sem, hil]; try (refine ⟨by kernel_rfl, ?_⟩)))))
          try (repeat refine And.intro (by first | omega | (unfold maxLen; omega) | kernel_rfl | (refine ⟨by first | omega | (unfold maxLen; omega), by first | omega | (unfold maxLen; omega)⟩) | grind) ?_)
          first | refine callK_intro (htl) rfl (by simp [go_sem]) rfl ?_ | refine callT_intro (htl) rfl (by simp [go_sem]) rfl ?_
          try (simp [go_sem]; try (refine ⟨by kernel_rfl, ?_⟩))
          first | refine callK_intro (htm) rfl (by simp [go_sem]) rfl ?_ | refine callT_intro (htm) rfl (by simp [go_sem]) rfl ?_
          try (simp [go_sem]; try (refine ⟨by kernel_rfl, ?_⟩))
          first | refine callK_intro (hmn) rfl (by simp [go_sem]) rfl ?_ | refine callT_intro (hmn) rfl (by simp [go_sem]) rfl ?_
          try (simp [go_sem]; try (refine ⟨by kernel_rfl, ?_⟩))
          (repeat (first | refine awp_seq ?_ | refine awp_block ?_ | ((first | refine awp_runG [0, 1, 4, 5, 6, 7, 8, 9, 10, 11, 19, 33, 43] hX ?_ | refine awp_drawnG [0, 1, 4, 5, 6, 7, 8, 9, 10, 11, 19, 33, 43] hX mixed ?_ | refine awp_ret ?_ | refine awp_skip ?_ | refine awp_exit ?_); (simp [go_sem, wi]; try (refine ⟨by kernel_rfl, ?_⟩)))))
          refine ⟨i, lo :: Q, Y - B * lo, ⟨by omega, okD_cons.2 ⟨by omega, h2⟩, by simp; omega, s2, s3, ?_⟩, by omega, ?_⟩
          · simp only [val]; rw [s1, hd0]
          · rw [← hset]
            refine sub_of _ [.old 0 ⟨3, 1, (R.set i lo).map ii⟩] (by simp [go_sem]) ?_
            simp [go_sem]

set_option maxHeartbeats 4000000 in
set_option maxRecDepth 20000 in
theorem rDiv_p (z w : Int) (hz : rz z) (hw : rz w) (h0 : 0 ≤ z) (h1 : 0 < w) : Means false Tryz.prog 14 [bigZ z, bigZ w] (.tup [bigZ (z / w), bigZ (z % w), ii 0]) := by
  have hlz := len60 hz
  have hlw := len60 hw
  have az : ab z = z := by unfold ab; rw [if_neg (by omega)]
  have aw : ab w = w := by unfold ab; rw [if_neg (by omega)]
  have sw : sg w = 1 := by rcases sg_cases w with h | h | h <;> omega
  have hov : Means false Tryz.prog 47 [il (dg (ab z)), il (dg (ab w))] (.tup [il (dg (z / w)), il (dg (z % w))]) := by
    have := rover_m (dg (ab z)) (dg (ab w)) (by omega) (by omega) (okD_dg _) (okD_dg _) (by rw [val_ab]; omega)
    rw [val_ab, val_ab] at this
    simpa only [az, aw] using this
  have q0 := Int.ediv_nonneg h0 (show 0 ≤ w by omega)
  have r0 := Int.emod_nonneg z (show w ≠ 0 by omega)
  have r1 := Int.emod_lt_of_pos z h1
  have q1 : z / w ≤ z := Int.ediv_le_self w h0
  have hql : (dg (z / w)).length ≤ 60 := Nat.le_trans (dg_len_mono q1) (by rw [← az]; exact hlz)
  have hrl : (dg (z % w)).length ≤ 60 := Nat.le_trans (dg_len_mono (show z % w ≤ w by omega)) (by rw [← aw]; exact hlw)
  have zq : z = 0 → z / w = 0 ∧ z % w = 0 := fun h => by subst h; simp
  have hmq := rmade_m (sg z) (dg (z / w)) (by omega) (okD_dg _)
  have hmr := rmade_m (sg z) (dg (z % w)) (by omega) (okD_dg _)
  rw [val_dg q0] at hmq
  rw [val_dg r0] at hmr
  have pos : ∀ x : Int, 0 ≤ x → (z = 0 → x = 0) → big2 (if x = 0 then 0 else sg z) (dg x) = bigZ x := fun x hx hzx => by
    have ax : ab x = x := by unfold ab; rw [if_neg (by omega)]
    have : (if x = 0 then 0 else sg z) = sg x := by
      split
      · rename_i h; rw [h]; rfl
      · rename_i h
        have : z ≠ 0 := fun q => h (hzx q)
        have e1 : sg z = 1 := by rcases sg_cases z with h | h | h <;> omega
        have e2 : sg x = 1 := by rcases sg_cases x with h | h | h <;> omega
        rw [e1, e2]
    rw [this, bigZ, ax]
  rw [pos _ q0 fun h => (zq h).1] at hmq
  rw [pos _ r0 fun h => (zq h).2] at hmr
  have hs0 : 0 ≤ sg z := by rcases sg_cases z with h | h | h <;> omega
  have hs1 : sg z ≤ 1 := by rcases sg_cases z with h | h | h <;> omega
  have hws := w64 (x := sg z) (by omega) (by omega)
  generalize z / w = q at *
  generalize z % w = r at *
  refine means_fn false 65 [.cell 4 24, .cell 5 24, .tmp 6] Tryz.func14 rfl rfl rfl (by simp) (by decide) rfl fun X hX => ?_
  (repeat (first | refine awp_seq ?_ | refine awp_block ?_ | ((first | refine awp_runG [0, 1, 2, 3, 4, 5, 6, 7, 8, 16, 21, 42] hX ?_ | refine awp_drawnG [0, 1, 2, 3, 4, 5, 6, 7, 8, 16, 21, 42] hX mixed ?_ | refine awp_ret ?_ | refine awp_skip ?_ | refine awp_exit ?_); (simp [go_sem]; try (refine ⟨by kernel_rfl, ?_⟩)))))
  first | refine callK_intro (rRight_t z hz) rfl (by simp [go_sem]) rfl ?_ | refine callT_intro (rRight_t z hz) rfl (by simp [go_sem]) rfl ?_
  try (simp [go_sem]; try (refine ⟨by kernel_rfl, ?_⟩))
  first | refine callG_intro (fun hg => rRight_t w hw) rfl (by simp [go_sem]) rfl ?_ | refine callGT_intro (fun hg => rRight_t w hw) rfl (by simp [go_sem]) rfl ?_
  try (simp [go_sem]; try (refine ⟨by kernel_rfl, ?_⟩))
  refine awp_cond (b := false) (by simp [go_sem]) (fun h => by cases h) (fun _ => ?_)
  (repeat (first | refine awp_seq ?_ | refine awp_block ?_ | ((first | refine awp_runG [0, 1, 2, 3, 4, 5, 6, 7, 8, 16, 21, 42] hX ?_ | refine awp_drawnG [0, 1, 2, 3, 4, 5, 6, 7, 8, 16, 21, 42] hX mixed ?_ | refine awp_ret ?_ | refine awp_skip ?_ | refine awp_exit ?_); (simp [go_sem]; try (refine ⟨by kernel_rfl, ?_⟩)))))
  refine awp_cond (b := false) (by simp [go_sem, sw]) (fun h => by cases h) (fun _ => ?_)
  (repeat (first | refine awp_seq ?_ | refine awp_block ?_ | ((first | refine awp_runG [0, 1, 2, 3, 4, 5, 6, 7, 8, 16, 21, 42] hX ?_ | refine awp_drawnG [0, 1, 2, 3, 4, 5, 6, 7, 8, 16, 21, 42] hX mixed ?_ | refine awp_ret ?_ | refine awp_skip ?_ | refine awp_exit ?_); (simp [go_sem]; try (refine ⟨by kernel_rfl, ?_⟩)))))
  first | refine callK_intro (hov) rfl (by simp [go_sem]) rfl ?_ | refine callT_intro (hov) rfl (by simp [go_sem]) rfl ?_
  try (simp [go_sem]; try (refine ⟨by kernel_rfl, ?_⟩))
  (repeat (first | refine awp_seq ?_ | refine awp_block ?_ | ((first | refine awp_runG [0, 1, 2, 3, 4, 5, 6, 7, 8, 16, 21, 42] hX ?_ | refine awp_drawnG [0, 1, 2, 3, 4, 5, 6, 7, 8, 16, 21, 42] hX mixed ?_ | refine awp_ret ?_ | refine awp_skip ?_ | refine awp_exit ?_); (simp [go_sem, sw, hws, hs0]; try (refine ⟨by kernel_rfl, ?_⟩)))))
  refine awp_cond (b := true) (by simp [go_sem, sw, hws, hs0]) (fun _ => ?_) (fun h => by cases h)
  (repeat (first | refine awp_seq ?_ | refine awp_block ?_ | ((first | refine awp_runG [0, 1, 2, 3, 4, 5, 6, 7, 8, 16, 21, 42] hX ?_ | refine awp_drawnG [0, 1, 2, 3, 4, 5, 6, 7, 8, 16, 21, 42] hX mixed ?_ | refine awp_ret ?_ | refine awp_skip ?_ | refine awp_exit ?_); (simp [go_sem, sw, hws]; try (refine ⟨by kernel_rfl, ?_⟩)))))
  first | refine callK_intro (hmq) rfl (by simp [go_sem]) rfl ?_ | refine callT_intro (hmq) rfl (by simp [go_sem]) rfl ?_
  try (simp [go_sem]; try (refine ⟨by kernel_rfl, ?_⟩))
  first | refine callK_intro (hmr) rfl (by simp [go_sem]) rfl ?_ | refine callT_intro (hmr) rfl (by simp [go_sem]) rfl ?_
  try (simp [go_sem]; try (refine ⟨by kernel_rfl, ?_⟩))
  (repeat (first | refine awp_seq ?_ | refine awp_block ?_ | ((first | refine awp_runG [0, 1, 2, 3, 4, 5, 6, 7, 8, 16, 21, 42] hX ?_ | refine awp_drawnG [0, 1, 2, 3, 4, 5, 6, 7, 8, 16, 21, 42] hX mixed ?_ | refine awp_ret ?_ | refine awp_skip ?_ | refine awp_exit ?_); (simp [go_sem]; try (refine ⟨by kernel_rfl, ?_⟩)))))

end Go.Proofs.YtlejmkmcghbdiaaGreatDoor
