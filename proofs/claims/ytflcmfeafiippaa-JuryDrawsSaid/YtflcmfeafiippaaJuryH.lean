/-
  Layer 35: the law JuryDraws.
-/
import Derived.Test.YtflcmfeafiippaaJuryQ
set_option linter.all false
namespace Go.Proofs.Ytflcmfeafiippaa
open Go.RowKit Go.Ab
attribute [local irreducible] AWP Go.Ab.Sub Means MeansH CallK CallG CallT CallGT

set_option maxHeartbeats 16000000 in
set_option maxRecDepth 20000 in
theorem juryDraws_m (M : List Int) (hM : M.length ≤ 9223372036854775807) (B : List Int) (hB : B.length ≤ 9223372036854775807) (size : Int) (hs : 0 ≤ size ∧ size ≤ 255) (seed : Int) (less : Int) (hl : 0 ≤ less ∧ less ≤ 255) :
    Means true Try.prog 4 [il M, il B, .v (.int .u8 size), ii seed, .v (.int .u8 less)] (bb true) := by
  refine means_fn true 199 [.tmp 10] Try.func4 rfl rfl rfl (by simp) (by decide) rfl fun X hX => ?_
  (repeat (first | refine awp_seq ?_ | refine awp_block ?_ | (refine awp_runG [0, 1, 2, 3, 4, 10, 11, 12, 13, 14, 15, 16, 17, 18, 19, 20, 21, 22, 23, 37, 46, 55, 67, 94, 148, 160] hX ?_; (simp [go_sem]; try (refine ⟨by kernel_rfl, ?_⟩))) | (refine awp_drawnG [0, 1, 2, 3, 4, 10, 11, 12, 13, 14, 15, 16, 17, 18, 19, 20, 21, 22, 23, 37, 46, 55, 67, 94, 148, 160] hX mixed ?_; (simp [go_sem]; try (refine ⟨by kernel_rfl, ?_⟩))) | (refine awp_ret ?_; (simp [go_sem]; try (refine ⟨by kernel_rfl, ?_⟩))) | (refine awp_skip ?_; (simp [go_sem]; try (refine ⟨by kernel_rfl, ?_⟩))) | (refine awp_exit ?_; (simp [go_sem]; try (refine ⟨by kernel_rfl, ?_⟩)))))
  first | refine callK_intro (small_m) rfl (by simp [go_sem]) rfl ?_ | refine callT_intro (small_m) rfl (by simp [go_sem]) rfl ?_
  try (simp [go_sem]; try (refine ⟨by kernel_rfl, ?_⟩))
  (repeat (first | refine awp_seq ?_ | refine awp_block ?_ | (refine awp_runG [0, 1, 2, 3, 4, 10, 11, 12, 13, 14, 15, 16, 17, 18, 19, 20, 21, 22, 23, 37, 46, 55, 67, 94, 148, 160] hX ?_; (simp [go_sem]; try (refine ⟨by kernel_rfl, ?_⟩))) | (refine awp_drawnG [0, 1, 2, 3, 4, 10, 11, 12, 13, 14, 15, 16, 17, 18, 19, 20, 21, 22, 23, 37, 46, 55, 67, 94, 148, 160] hX mixed ?_; (simp [go_sem]; try (refine ⟨by kernel_rfl, ?_⟩))) | (refine awp_ret ?_; (simp [go_sem]; try (refine ⟨by kernel_rfl, ?_⟩))) | (refine awp_skip ?_; (simp [go_sem]; try (refine ⟨by kernel_rfl, ?_⟩))) | (refine awp_exit ?_; (simp [go_sem]; try (refine ⟨by kernel_rfl, ?_⟩)))))
  first | refine callG_intro (fun hg => members_m M hM) rfl (by simp [go_sem]) rfl ?_ | refine callGT_intro (fun hg => members_m M hM) rfl (by simp [go_sem]) rfl ?_
  try (simp [go_sem]; try (refine ⟨by kernel_rfl, ?_⟩))
  refine awp_cond (b := decide (60 < (M.length : Int)) || decide (60 < (B.length : Int)) || !okM M) (by simp [go_sem, Bool.or_assoc]) (fun hb => ?_) (fun hb => ?_)
  · (repeat (first | refine awp_seq ?_ | refine awp_block ?_ | (refine awp_runG [0, 1, 2, 3, 4, 10, 11, 12, 13, 14, 15, 16, 17, 18, 19, 20, 21, 22, 23, 37, 46, 55, 67, 94, 148, 160] hX ?_; (simp [go_sem]; try (refine ⟨by kernel_rfl, ?_⟩))) | (refine awp_drawnG [0, 1, 2, 3, 4, 10, 11, 12, 13, 14, 15, 16, 17, 18, 19, 20, 21, 22, 23, 37, 46, 55, 67, 94, 148, 160] hX mixed ?_; (simp [go_sem]; try (refine ⟨by kernel_rfl, ?_⟩))) | (refine awp_ret ?_; (simp [go_sem]; try (refine ⟨by kernel_rfl, ?_⟩))) | (refine awp_skip ?_; (simp [go_sem]; try (refine ⟨by kernel_rfl, ?_⟩))) | (refine awp_exit ?_; (simp [go_sem]; try (refine ⟨by kernel_rfl, ?_⟩)))))
  simp at hb
  obtain ⟨⟨b1, b2⟩, hok⟩ := hb
  obtain ⟨m0, m1, hnd, hrg⟩ := okM_spec hok
  have hm1 : size.tmod 60 = size % 60 := Int.tmod_eq_emod_of_nonneg hs.1
  have hw8 : IntKind.u8.wrap (size % 60) = size % 60 := IntWalk.u8_in _ (by omega)
  have hw9 : IntKind.i64.wrap (size % 60) = size % 60 := w64 (by omega) (by omega)
  have hwl : IntKind.i64.wrap less = less := w64 (by omega) (by omega)
  obtain ⟨n, hn⟩ : ∃ n, 1 + size % 60 = n := ⟨_, rfl⟩
  have hn1 : 1 ≤ n ∧ n ≤ 60 := by omega
  have hwn : IntKind.i64.wrap n = n := w64 (by omega) (by omega)
  (repeat (first | refine awp_seq ?_ | refine awp_block ?_ | (refine awp_runG [0, 1, 2, 3, 4, 10, 11, 12, 13, 14, 15, 16, 17, 18, 19, 20, 21, 22, 23, 37, 46, 55, 67, 94, 148, 160] hX ?_; (simp [go_sem, hm1, hw8, hw9, hn, hwn]; try (refine ⟨by kernel_rfl, ?_⟩))) | (refine awp_drawnG [0, 1, 2, 3, 4, 10, 11, 12, 13, 14, 15, 16, 17, 18, 19, 20, 21, 22, 23, 37, 46, 55, 67, 94, 148, 160] hX mixed ?_; (simp [go_sem, hm1, hw8, hw9, hn, hwn]; try (refine ⟨by kernel_rfl, ?_⟩))) | (refine awp_ret ?_; (simp [go_sem, hm1, hw8, hw9, hn, hwn]; try (refine ⟨by kernel_rfl, ?_⟩))) | (refine awp_skip ?_; (simp [go_sem, hm1, hw8, hw9, hn, hwn]; try (refine ⟨by kernel_rfl, ?_⟩))) | (refine awp_exit ?_; (simp [go_sem, hm1, hw8, hw9, hn, hwn]; try (refine ⟨by kernel_rfl, ?_⟩)))))
  obtain ⟨C, hC⟩ : ∃ C, canL M B = C := ⟨_, rfl⟩
  have hcl : C.length ≤ M.length := by rw [← hC]; exact can_le M B
  have hCn : C.Nodup := by rw [← hC]; exact can_nodup hnd B
  refine awp_loop (fun k : Nat => ⟨mkE [(0, il M), (1, il B), (3, ii seed), (4, .v (.int .u8 less)), (11, bb true), (12, ii n), (13, ii (canL (M.take k) B).length), (14, ii k)], []⟩) (fun k => k ≤ M.length) (fun k => M.length - k) 0 ?_ ?_ ?_
  · refine sub_of _ [] (by simp [go_sem, canL]) ?_
    simp [go_sem, canL]
  · omega
  · intro k hk
    have hck := can_le (M.take k) B
    rw [List.length_take] at hck
    (repeat (first | refine awp_seq ?_ | refine awp_block ?_ | (refine awp_runG [0, 1, 2, 3, 4, 10, 11, 12, 13, 14, 15, 16, 17, 18, 19, 20, 21, 22, 23, 37, 46, 55, 67, 94, 148, 160] hX ?_; (simp [go_sem]; try (refine ⟨by kernel_rfl, ?_⟩))) | (refine awp_drawnG [0, 1, 2, 3, 4, 10, 11, 12, 13, 14, 15, 16, 17, 18, 19, 20, 21, 22, 23, 37, 46, 55, 67, 94, 148, 160] hX mixed ?_; (simp [go_sem]; try (refine ⟨by kernel_rfl, ?_⟩))) | (refine awp_ret ?_; (simp [go_sem]; try (refine ⟨by kernel_rfl, ?_⟩))) | (refine awp_skip ?_; (simp [go_sem]; try (refine ⟨by kernel_rfl, ?_⟩))) | (refine awp_exit ?_; (simp [go_sem]; try (refine ⟨by kernel_rfl, ?_⟩)))))
    refine awp_cond (b := decide (k < M.length)) (by simp [go_sem]) (fun hc => ?_) (fun hc => ?_)
    · simp at hc
      (repeat (first | refine awp_seq ?_ | refine awp_block ?_ | (refine awp_runG [0, 1, 2, 3, 4, 10, 11, 12, 13, 14, 15, 16, 17, 18, 19, 20, 21, 22, 23, 37, 46, 55, 67, 94, 148, 160] hX ?_; (simp [go_sem, hc]; try (refine ⟨by kernel_rfl, ?_⟩))) | (refine awp_drawnG [0, 1, 2, 3, 4, 10, 11, 12, 13, 14, 15, 16, 17, 18, 19, 20, 21, 22, 23, 37, 46, 55, 67, 94, 148, 160] hX mixed ?_; (simp [go_sem, hc]; try (refine ⟨by kernel_rfl, ?_⟩))) | (refine awp_ret ?_; (simp [go_sem, hc]; try (refine ⟨by kernel_rfl, ?_⟩))) | (refine awp_skip ?_; (simp [go_sem, hc]; try (refine ⟨by kernel_rfl, ?_⟩))) | (refine awp_exit ?_; (simp [go_sem, hc]; try (refine ⟨by kernel_rfl, ?_⟩)))))
      first | refine callK_intro (at_m B hB M[k]) rfl (by simp [go_sem]) rfl ?_ | refine callT_intro (at_m B hB M[k]) rfl (by simp [go_sem]) rfl ?_
      try (simp [go_sem, idx_neg]; try (refine ⟨by kernel_rfl, ?_⟩))
      (repeat (first | refine awp_seq ?_ | refine awp_block ?_ | (refine awp_runG [0, 1, 2, 3, 4, 10, 11, 12, 13, 14, 15, 16, 17, 18, 19, 20, 21, 22, 23, 37, 46, 55, 67, 94, 148, 160] hX ?_; (simp [go_sem, idx_neg]; try (refine ⟨by kernel_rfl, ?_⟩))) | (refine awp_drawnG [0, 1, 2, 3, 4, 10, 11, 12, 13, 14, 15, 16, 17, 18, 19, 20, 21, 22, 23, 37, 46, 55, 67, 94, 148, 160] hX mixed ?_; (simp [go_sem, idx_neg]; try (refine ⟨by kernel_rfl, ?_⟩))) | (refine awp_ret ?_; (simp [go_sem, idx_neg]; try (refine ⟨by kernel_rfl, ?_⟩))) | (refine awp_skip ?_; (simp [go_sem, idx_neg]; try (refine ⟨by kernel_rfl, ?_⟩))) | (refine awp_exit ?_; (simp [go_sem, idx_neg]; try (refine ⟨by kernel_rfl, ?_⟩)))))
      refine awp_cond (b := decide (M[k] ∉ B)) (by simp [go_sem, idx_neg]) (fun hd => ?_) (fun hd => ?_)
      · simp only [decide_eq_true_eq] at hd
        have e : (canL (M.take (k + 1)) B).length = (canL (M.take k) B).length + 1 := by rw [can_succ hc, if_neg hd]; simp
        (repeat (first | refine awp_seq ?_ | refine awp_block ?_ | (refine awp_runG [0, 1, 2, 3, 4, 10, 11, 12, 13, 14, 15, 16, 17, 18, 19, 20, 21, 22, 23, 37, 46, 55, 67, 94, 148, 160] hX ?_; (simp [go_sem]; (try simp (disch := omega) only [w64, td, tm]); try (refine ⟨by kernel_rfl, ?_⟩))) | (refine awp_drawnG [0, 1, 2, 3, 4, 10, 11, 12, 13, 14, 15, 16, 17, 18, 19, 20, 21, 22, 23, 37, 46, 55, 67, 94, 148, 160] hX mixed ?_; (simp [go_sem]; (try simp (disch := omega) only [w64, td, tm]); try (refine ⟨by kernel_rfl, ?_⟩))) | (refine awp_ret ?_; (simp [go_sem]; (try simp (disch := omega) only [w64, td, tm]); try (refine ⟨by kernel_rfl, ?_⟩))) | (refine awp_skip ?_; (simp [go_sem]; (try simp (disch := omega) only [w64, td, tm]); try (refine ⟨by kernel_rfl, ?_⟩))) | (refine awp_exit ?_; (simp [go_sem]; (try simp (disch := omega) only [w64, td, tm]); try (refine ⟨by kernel_rfl, ?_⟩)))))
        refine ⟨k + 1, by omega, by omega, ?_⟩
        rw [e]
        refine sub_of _ [] (by simp [go_sem]) ?_
        simp [go_sem]
      · simp at hd
        have e : (canL (M.take (k + 1)) B).length = (canL (M.take k) B).length := by rw [can_succ hc, if_pos hd]; simp
        (repeat (first | refine awp_seq ?_ | refine awp_block ?_ | (refine awp_runG [0, 1, 2, 3, 4, 10, 11, 12, 13, 14, 15, 16, 17, 18, 19, 20, 21, 22, 23, 37, 46, 55, 67, 94, 148, 160] hX ?_; (simp [go_sem]; (try simp (disch := omega) only [w64, td, tm]); try (refine ⟨by kernel_rfl, ?_⟩))) | (refine awp_drawnG [0, 1, 2, 3, 4, 10, 11, 12, 13, 14, 15, 16, 17, 18, 19, 20, 21, 22, 23, 37, 46, 55, 67, 94, 148, 160] hX mixed ?_; (simp [go_sem]; (try simp (disch := omega) only [w64, td, tm]); try (refine ⟨by kernel_rfl, ?_⟩))) | (refine awp_ret ?_; (simp [go_sem]; (try simp (disch := omega) only [w64, td, tm]); try (refine ⟨by kernel_rfl, ?_⟩))) | (refine awp_skip ?_; (simp [go_sem]; (try simp (disch := omega) only [w64, td, tm]); try (refine ⟨by kernel_rfl, ?_⟩))) | (refine awp_exit ?_; (simp [go_sem]; (try simp (disch := omega) only [w64, td, tm]); try (refine ⟨by kernel_rfl, ?_⟩)))))
        refine ⟨k + 1, by omega, by omega, ?_⟩
        rw [e]
        refine sub_of _ [] (by simp [go_sem]) ?_
        simp [go_sem]
    · have hkl : k = M.length := by simp at hc; omega
      subst hkl
      rw [List.take_length, hC]
      have hd1 := jdraw_m M hM n B (by omega) seed
      (repeat (first | refine awp_seq ?_ | refine awp_block ?_ | (refine awp_runG [0, 1, 2, 3, 4, 10, 11, 12, 13, 14, 15, 16, 17, 18, 19, 20, 21, 22, 23, 37, 46, 55, 67, 94, 148, 160] hX ?_; (simp [go_sem]; try (refine ⟨by kernel_rfl, ?_⟩))) | (refine awp_drawnG [0, 1, 2, 3, 4, 10, 11, 12, 13, 14, 15, 16, 17, 18, 19, 20, 21, 22, 23, 37, 46, 55, 67, 94, 148, 160] hX mixed ?_; (simp [go_sem]; try (refine ⟨by kernel_rfl, ?_⟩))) | (refine awp_ret ?_; (simp [go_sem]; try (refine ⟨by kernel_rfl, ?_⟩))) | (refine awp_skip ?_; (simp [go_sem]; try (refine ⟨by kernel_rfl, ?_⟩))) | (refine awp_exit ?_; (simp [go_sem]; try (refine ⟨by kernel_rfl, ?_⟩)))))
      by_cases h0 : C = []
      · rw [jdr_ok hok hn1.1 hn1.2, jde_24 hok hn1.1 hn1.2 (by rw [hC]; exact h0), hC, h0, pick_nil] at hd1
        subst h0
        first | refine callK_intro (hd1) rfl (by simp [go_sem]) rfl ?_ | refine callT_intro (hd1) rfl (by simp [go_sem]) rfl ?_
        try (simp [go_sem]; try (refine ⟨by kernel_rfl, ?_⟩))
        (repeat (first | refine awp_seq ?_ | refine awp_block ?_ | (refine awp_runG [0, 1, 2, 3, 4, 10, 11, 12, 13, 14, 15, 16, 17, 18, 19, 20, 21, 22, 23, 37, 46, 55, 67, 94, 148, 160] hX ?_; (simp [go_sem]; try (refine ⟨by kernel_rfl, ?_⟩))) | (refine awp_drawnG [0, 1, 2, 3, 4, 10, 11, 12, 13, 14, 15, 16, 17, 18, 19, 20, 21, 22, 23, 37, 46, 55, 67, 94, 148, 160] hX mixed ?_; (simp [go_sem]; try (refine ⟨by kernel_rfl, ?_⟩))) | (refine awp_ret ?_; (simp [go_sem]; try (refine ⟨by kernel_rfl, ?_⟩))) | (refine awp_skip ?_; (simp [go_sem]; try (refine ⟨by kernel_rfl, ?_⟩))) | (refine awp_exit ?_; (simp [go_sem]; try (refine ⟨by kernel_rfl, ?_⟩)))))
        refine awp_cond (b := true) (by simp [go_sem]) (fun _ => ?_) (fun h => by cases h)
        (repeat (first | refine awp_seq ?_ | refine awp_block ?_ | (refine awp_runG [0, 1, 2, 3, 4, 10, 11, 12, 13, 14, 15, 16, 17, 18, 19, 20, 21, 22, 23, 37, 46, 55, 67, 94, 148, 160] hX ?_; (simp [go_sem]; try (refine ⟨by kernel_rfl, ?_⟩))) | (refine awp_drawnG [0, 1, 2, 3, 4, 10, 11, 12, 13, 14, 15, 16, 17, 18, 19, 20, 21, 22, 23, 37, 46, 55, 67, 94, 148, 160] hX mixed ?_; (simp [go_sem]; try (refine ⟨by kernel_rfl, ?_⟩))) | (refine awp_ret ?_; (simp [go_sem]; try (refine ⟨by kernel_rfl, ?_⟩))) | (refine awp_skip ?_; (simp [go_sem]; try (refine ⟨by kernel_rfl, ?_⟩))) | (refine awp_exit ?_; (simp [go_sem]; try (refine ⟨by kernel_rfl, ?_⟩)))))
      · have h0' : 0 < C.length := List.length_pos_iff.2 h0
        rw [jdr_ok hok hn1.1 hn1.2, jde_0 hok hn1.1 hn1.2 (by rw [hC]; exact h0), hC] at hd1
        have hdr := drawn_pick hnd B n seed
        have hln := pick_len C n seed
        have hsub : ∀ x ∈ pickL C n seed, x ∈ C := fun x hx => pick_mem hx
        have hnd2 := pick_nodup hCn n seed
        obtain ⟨k, hk⟩ : ∃ k, 1 + less.tmod n = k := ⟨_, rfl⟩
        have hkb : 1 ≤ k ∧ k ≤ n := by
          rw [Int.tmod_eq_emod_of_nonneg hl.1] at hk
          have h1 := Int.emod_nonneg less (b := n) (by omega)
          have h2 := Int.emod_lt_of_pos less (b := n) (by omega)
          omega
        have hwk : IntKind.i64.wrap k = k := w64 (by omega) (by omega)
        have hn0 : ¬ n = 0 := by omega
        have hd2 := jdraw_m M hM k B (by omega) seed
        rw [jdr_ok hok hkb.1 (by omega), jde_0 hok hkb.1 (by omega) (by rw [hC]; exact h0), hC] at hd2
        have hd3 := jdraw_m M hM n (-5 :: (B ++ B)) (by simp; omega) seed
        rw [jdr_ok hok hn1.1 hn1.2, jde_0 hok hn1.1 hn1.2 (by rw [can_neg5 hrg, hC]; exact h0), can_neg5 hrg, hC] at hd3
        have htk := pick_take C seed hkb.2
        have hlk := pick_len C k seed
        rw [hC] at hdr
        generalize pickL C n seed = l at *
        generalize pickL C k seed = m at *
        have hll : l.length ≤ 60 := by omega
        have hll0 : 0 < l.length := by omega
        have hmm : min n (C.length : Int) = (l.length : Int) := by omega
        have hmk : min k (C.length : Int) = (m.length : Int) := by omega
        have hml : m.length ≤ l.length := by omega
        have hag := again_m M l B hM (by omega) (by omega) seed
        have hab : abad l = false := by simp [abad]; exact ⟨List.length_pos_iff.1 hll0, by omega⟩
        rw [(agr_ok (seed := seed) hab).1, (agr_ok (seed := seed) hab).2] at hag
        have hsz : 1 ≤ min ((l.length : Int) + 2) 60 ∧ min ((l.length : Int) + 2) 60 ≤ 60 := by omega
        have hca : canL M (B ++ l) = C.filter fun x => !decide (x ∈ l) := by rw [can_app, hC]
        have hcal : (canL M (B ++ l)).length = C.length - l.length := by rw [hca]; exact minus_len hCn hnd2 hsub
        have hdr2 := drawn_pick hnd (B ++ l) (min ((l.length : Int) + 2) 60) seed
        rw [jdr_ok hok hsz.1 hsz.2] at hag
        have hln2 := pick_len (canL M (B ++ l)) (min ((l.length : Int) + 2) 60) seed
        have hz3 : Means true Try.prog 8 [il M, ii n, .sl (ii (-5) :: (B.map ii ++ B.map ii)), ii seed] (.tup [il l, ii 0]) := by
          simpa only [il, List.map_cons, List.map_append] using hd3
        first | refine callK_intro (hd1) rfl (by simp [go_sem]) rfl ?_ | refine callT_intro (hd1) rfl (by simp [go_sem]) rfl ?_
        try (simp [go_sem]; try (refine ⟨by kernel_rfl, ?_⟩))
        (repeat (first | refine awp_seq ?_ | refine awp_block ?_ | (refine awp_runG [0, 1, 2, 3, 4, 10, 11, 12, 13, 14, 15, 16, 17, 18, 19, 20, 21, 22, 23, 37, 46, 55, 67, 94, 148, 160] hX ?_; (simp [go_sem]; try (refine ⟨by kernel_rfl, ?_⟩))) | (refine awp_drawnG [0, 1, 2, 3, 4, 10, 11, 12, 13, 14, 15, 16, 17, 18, 19, 20, 21, 22, 23, 37, 46, 55, 67, 94, 148, 160] hX mixed ?_; (simp [go_sem]; try (refine ⟨by kernel_rfl, ?_⟩))) | (refine awp_ret ?_; (simp [go_sem]; try (refine ⟨by kernel_rfl, ?_⟩))) | (refine awp_skip ?_; (simp [go_sem]; try (refine ⟨by kernel_rfl, ?_⟩))) | (refine awp_exit ?_; (simp [go_sem]; try (refine ⟨by kernel_rfl, ?_⟩)))))
        refine awp_cond (b := false) (by simp [go_sem, h0]) (fun h => by cases h) (fun _ => ?_)
        (repeat (first | refine awp_seq ?_ | refine awp_block ?_ | (refine awp_runG [0, 1, 2, 3, 4, 10, 11, 12, 13, 14, 15, 16, 17, 18, 19, 20, 21, 22, 23, 37, 46, 55, 67, 94, 148, 160] hX ?_; (simp [go_sem, hmm]; try (refine ⟨by kernel_rfl, ?_⟩))) | (refine awp_drawnG [0, 1, 2, 3, 4, 10, 11, 12, 13, 14, 15, 16, 17, 18, 19, 20, 21, 22, 23, 37, 46, 55, 67, 94, 148, 160] hX mixed ?_; (simp [go_sem, hmm]; try (refine ⟨by kernel_rfl, ?_⟩))) | (refine awp_ret ?_; (simp [go_sem, hmm]; try (refine ⟨by kernel_rfl, ?_⟩))) | (refine awp_skip ?_; (simp [go_sem, hmm]; try (refine ⟨by kernel_rfl, ?_⟩))) | (refine awp_exit ?_; (simp [go_sem, hmm]; try (refine ⟨by kernel_rfl, ?_⟩)))))
        first | refine callG_intro (fun hg => drawn_m l M B (by omega) hM hB) rfl (by simp [go_sem]) rfl ?_ | refine callGT_intro (fun hg => drawn_m l M B (by omega) hM hB) rfl (by simp [go_sem]) rfl ?_
        try (simp [go_sem, hmm, hdr]; try (refine ⟨by kernel_rfl, ?_⟩))
        refine awp_cond (b := false) (by simp [go_sem, hmm, hdr]) (fun h => by cases h) (fun _ => ?_)
        (repeat (first | refine awp_seq ?_ | refine awp_block ?_ | (refine awp_runG [0, 1, 2, 3, 4, 10, 11, 12, 13, 14, 15, 16, 17, 18, 19, 20, 21, 22, 23, 37, 46, 55, 67, 94, 148, 160] hX ?_; (simp [go_sem, hk, hwk, hwl, hn0]; try (refine ⟨by kernel_rfl, ?_⟩))) | (refine awp_drawnG [0, 1, 2, 3, 4, 10, 11, 12, 13, 14, 15, 16, 17, 18, 19, 20, 21, 22, 23, 37, 46, 55, 67, 94, 148, 160] hX mixed ?_; (simp [go_sem, hk, hwk, hwl, hn0]; try (refine ⟨by kernel_rfl, ?_⟩))) | (refine awp_ret ?_; (simp [go_sem, hk, hwk, hwl, hn0]; try (refine ⟨by kernel_rfl, ?_⟩))) | (refine awp_skip ?_; (simp [go_sem, hk, hwk, hwl, hn0]; try (refine ⟨by kernel_rfl, ?_⟩))) | (refine awp_exit ?_; (simp [go_sem, hk, hwk, hwl, hn0]; try (refine ⟨by kernel_rfl, ?_⟩)))))
        first | refine callK_intro (hd2) rfl (by simp [go_sem]) rfl ?_ | refine callT_intro (hd2) rfl (by simp [go_sem]) rfl ?_
        try (simp [go_sem]; try (refine ⟨by kernel_rfl, ?_⟩))
        (repeat (first | refine awp_seq ?_ | refine awp_block ?_ | (refine awp_runG [0, 1, 2, 3, 4, 10, 11, 12, 13, 14, 15, 16, 17, 18, 19, 20, 21, 22, 23, 37, 46, 55, 67, 94, 148, 160] hX ?_; (simp [go_sem]; try (refine ⟨by kernel_rfl, ?_⟩))) | (refine awp_drawnG [0, 1, 2, 3, 4, 10, 11, 12, 13, 14, 15, 16, 17, 18, 19, 20, 21, 22, 23, 37, 46, 55, 67, 94, 148, 160] hX mixed ?_; (simp [go_sem]; try (refine ⟨by kernel_rfl, ?_⟩))) | (refine awp_ret ?_; (simp [go_sem]; try (refine ⟨by kernel_rfl, ?_⟩))) | (refine awp_skip ?_; (simp [go_sem]; try (refine ⟨by kernel_rfl, ?_⟩))) | (refine awp_exit ?_; (simp [go_sem]; try (refine ⟨by kernel_rfl, ?_⟩)))))
        (repeat refine And.intro (by first | omega | (unfold maxLen; omega) | kernel_rfl | (refine ⟨by first | omega | (unfold maxLen; omega), by first | omega | (unfold maxLen; omega)⟩) | grind) ?_)
        (repeat (first | refine awp_seq ?_ | refine awp_block ?_ | (refine awp_runG [0, 1, 2, 3, 4, 10, 11, 12, 13, 14, 15, 16, 17, 18, 19, 20, 21, 22, 23, 37, 46, 55, 67, 94, 148, 160] hX ?_; (simp [go_sem]; try (refine ⟨by kernel_rfl, ?_⟩))) | (refine awp_drawnG [0, 1, 2, 3, 4, 10, 11, 12, 13, 14, 15, 16, 17, 18, 19, 20, 21, 22, 23, 37, 46, 55, 67, 94, 148, 160] hX mixed ?_; (simp [go_sem]; try (refine ⟨by kernel_rfl, ?_⟩))) | (refine awp_ret ?_; (simp [go_sem]; try (refine ⟨by kernel_rfl, ?_⟩))) | (refine awp_skip ?_; (simp [go_sem]; try (refine ⟨by kernel_rfl, ?_⟩))) | (refine awp_exit ?_; (simp [go_sem]; try (refine ⟨by kernel_rfl, ?_⟩)))))
        (repeat refine And.intro (by first | omega | (unfold maxLen; omega) | kernel_rfl | (refine ⟨by first | omega | (unfold maxLen; omega), by first | omega | (unfold maxLen; omega)⟩) | grind) ?_)
        try (simp [go_sem]; try (refine ⟨by kernel_rfl, ?_⟩))
        first | refine callK_intro (hz3) rfl (by simp [go_sem]) rfl ?_ | refine callT_intro (hz3) rfl (by simp [go_sem]) rfl ?_
        try (simp [go_sem]; try (refine ⟨by kernel_rfl, ?_⟩))
        (repeat (first | refine awp_seq ?_ | refine awp_block ?_ | (refine awp_runG [0, 1, 2, 3, 4, 10, 11, 12, 13, 14, 15, 16, 17, 18, 19, 20, 21, 22, 23, 37, 46, 55, 67, 94, 148, 160] hX ?_; (simp [go_sem, hmk, hml]; try (refine ⟨by kernel_rfl, ?_⟩))) | (refine awp_drawnG [0, 1, 2, 3, 4, 10, 11, 12, 13, 14, 15, 16, 17, 18, 19, 20, 21, 22, 23, 37, 46, 55, 67, 94, 148, 160] hX mixed ?_; (simp [go_sem, hmk, hml]; try (refine ⟨by kernel_rfl, ?_⟩))) | (refine awp_ret ?_; (simp [go_sem, hmk, hml]; try (refine ⟨by kernel_rfl, ?_⟩))) | (refine awp_skip ?_; (simp [go_sem, hmk, hml]; try (refine ⟨by kernel_rfl, ?_⟩))) | (refine awp_exit ?_; (simp [go_sem, hmk, hml]; try (refine ⟨by kernel_rfl, ?_⟩)))))
        have hi1 : Means true Try.prog 14 [il m, .sl ((l.map ii).take m.length)] (bb true) := by
          have h := ints_m m (l.take m.length) (by omega) (by simp; omega)
          rw [decide_eq_true htk] at h
          simpa only [il, List.map_take] using h
        first | refine callG_intro (fun hg => hi1) rfl (by simp [go_sem]) rfl ?_ | refine callGT_intro (fun hg => hi1) rfl (by simp [go_sem]) rfl ?_
        try (simp [go_sem]; try (refine ⟨by kernel_rfl, ?_⟩))
        first | refine callG_intro (fun hg => ints_m l l (by omega) (by omega)) rfl (by simp [go_sem]) rfl ?_ | refine callGT_intro (fun hg => ints_m l l (by omega) (by omega)) rfl (by simp [go_sem]) rfl ?_
        try (simp [go_sem]; try (refine ⟨by kernel_rfl, ?_⟩))
        refine awp_cond (b := false) (by simp [go_sem]) (fun h => by cases h) (fun _ => ?_)
        (repeat (first | refine awp_seq ?_ | refine awp_block ?_ | (refine awp_runG [0, 1, 2, 3, 4, 10, 11, 12, 13, 14, 15, 16, 17, 18, 19, 20, 21, 22, 23, 37, 46, 55, 67, 94, 148, 160] hX ?_; (simp [go_sem]; try (refine ⟨by kernel_rfl, ?_⟩))) | (refine awp_drawnG [0, 1, 2, 3, 4, 10, 11, 12, 13, 14, 15, 16, 17, 18, 19, 20, 21, 22, 23, 37, 46, 55, 67, 94, 148, 160] hX mixed ?_; (simp [go_sem]; try (refine ⟨by kernel_rfl, ?_⟩))) | (refine awp_ret ?_; (simp [go_sem]; try (refine ⟨by kernel_rfl, ?_⟩))) | (refine awp_skip ?_; (simp [go_sem]; try (refine ⟨by kernel_rfl, ?_⟩))) | (refine awp_exit ?_; (simp [go_sem]; try (refine ⟨by kernel_rfl, ?_⟩)))))
        by_cases he : C.length = l.length
        · have hce : canL M (B ++ l) = [] := List.eq_nil_of_length_eq_zero (by omega)
          rw [hce, pick_nil, jde_24 hok hsz.1 hsz.2 hce] at hag
          first | refine callK_intro (hag) rfl (by simp [go_sem]) rfl ?_ | refine callT_intro (hag) rfl (by simp [go_sem]) rfl ?_
          try (simp [go_sem]; try (refine ⟨by kernel_rfl, ?_⟩))
          (repeat (first | refine awp_seq ?_ | refine awp_block ?_ | (refine awp_runG [0, 1, 2, 3, 4, 10, 11, 12, 13, 14, 15, 16, 17, 18, 19, 20, 21, 22, 23, 37, 46, 55, 67, 94, 148, 160] hX ?_; (simp [go_sem, he]; try (refine ⟨by kernel_rfl, ?_⟩))) | (refine awp_drawnG [0, 1, 2, 3, 4, 10, 11, 12, 13, 14, 15, 16, 17, 18, 19, 20, 21, 22, 23, 37, 46, 55, 67, 94, 148, 160] hX mixed ?_; (simp [go_sem, he]; try (refine ⟨by kernel_rfl, ?_⟩))) | (refine awp_ret ?_; (simp [go_sem, he]; try (refine ⟨by kernel_rfl, ?_⟩))) | (refine awp_skip ?_; (simp [go_sem, he]; try (refine ⟨by kernel_rfl, ?_⟩))) | (refine awp_exit ?_; (simp [go_sem, he]; try (refine ⟨by kernel_rfl, ?_⟩)))))
          refine awp_cond (b := true) (by simp [go_sem, he]) (fun _ => ?_) (fun h => by cases h)
          (repeat (first | refine awp_seq ?_ | refine awp_block ?_ | (refine awp_runG [0, 1, 2, 3, 4, 10, 11, 12, 13, 14, 15, 16, 17, 18, 19, 20, 21, 22, 23, 37, 46, 55, 67, 94, 148, 160] hX ?_; (simp [go_sem]; try (refine ⟨by kernel_rfl, ?_⟩))) | (refine awp_drawnG [0, 1, 2, 3, 4, 10, 11, 12, 13, 14, 15, 16, 17, 18, 19, 20, 21, 22, 23, 37, 46, 55, 67, 94, 148, 160] hX mixed ?_; (simp [go_sem]; try (refine ⟨by kernel_rfl, ?_⟩))) | (refine awp_ret ?_; (simp [go_sem]; try (refine ⟨by kernel_rfl, ?_⟩))) | (refine awp_skip ?_; (simp [go_sem]; try (refine ⟨by kernel_rfl, ?_⟩))) | (refine awp_exit ?_; (simp [go_sem]; try (refine ⟨by kernel_rfl, ?_⟩)))))
        · have hce : canL M (B ++ l) ≠ [] := fun e => by rw [e] at hcal; simp at hcal; omega
          rw [jde_0 hok hsz.1 hsz.2 hce] at hag
          generalize pickL (canL M (B ++ l)) (min ((l.length : Int) + 2) 60) seed = g at *
          have hgl : (g.length : Int) = min ((l.length : Int) + 2) ((C.length : Int) - l.length) := by omega
          have hdm : Means true Try.prog 17 [il g, il M, .sl (B.map ii ++ l.map ii)] (bb true) := by
            have h := drawn_m g M (B ++ l) (by omega) hM (by simp; omega)
            rw [hdr2] at h
            simpa only [il, List.map_append] using h
          first | refine callK_intro (hag) rfl (by simp [go_sem]) rfl ?_ | refine callT_intro (hag) rfl (by simp [go_sem]) rfl ?_
          try (simp [go_sem]; try (refine ⟨by kernel_rfl, ?_⟩))
          (repeat (first | refine awp_seq ?_ | refine awp_block ?_ | (refine awp_runG [0, 1, 2, 3, 4, 10, 11, 12, 13, 14, 15, 16, 17, 18, 19, 20, 21, 22, 23, 37, 46, 55, 67, 94, 148, 160] hX ?_; (simp [go_sem, he]; try (refine ⟨by kernel_rfl, ?_⟩))) | (refine awp_drawnG [0, 1, 2, 3, 4, 10, 11, 12, 13, 14, 15, 16, 17, 18, 19, 20, 21, 22, 23, 37, 46, 55, 67, 94, 148, 160] hX mixed ?_; (simp [go_sem, he]; try (refine ⟨by kernel_rfl, ?_⟩))) | (refine awp_ret ?_; (simp [go_sem, he]; try (refine ⟨by kernel_rfl, ?_⟩))) | (refine awp_skip ?_; (simp [go_sem, he]; try (refine ⟨by kernel_rfl, ?_⟩))) | (refine awp_exit ?_; (simp [go_sem, he]; try (refine ⟨by kernel_rfl, ?_⟩)))))
          refine awp_cond (b := false) (by simp [go_sem, he]; omega) (fun h => by cases h) (fun _ => ?_)
          (repeat (first | refine awp_seq ?_ | refine awp_block ?_ | (refine awp_runG [0, 1, 2, 3, 4, 10, 11, 12, 13, 14, 15, 16, 17, 18, 19, 20, 21, 22, 23, 37, 46, 55, 67, 94, 148, 160] hX ?_; (simp [go_sem, hgl]; (try simp (disch := omega) only [w64, td, tm]); try (refine ⟨by kernel_rfl, ?_⟩))) | (refine awp_drawnG [0, 1, 2, 3, 4, 10, 11, 12, 13, 14, 15, 16, 17, 18, 19, 20, 21, 22, 23, 37, 46, 55, 67, 94, 148, 160] hX mixed ?_; (simp [go_sem, hgl]; (try simp (disch := omega) only [w64, td, tm]); try (refine ⟨by kernel_rfl, ?_⟩))) | (refine awp_ret ?_; (simp [go_sem, hgl]; (try simp (disch := omega) only [w64, td, tm]); try (refine ⟨by kernel_rfl, ?_⟩))) | (refine awp_skip ?_; (simp [go_sem, hgl]; (try simp (disch := omega) only [w64, td, tm]); try (refine ⟨by kernel_rfl, ?_⟩))) | (refine awp_exit ?_; (simp [go_sem, hgl]; (try simp (disch := omega) only [w64, td, tm]); try (refine ⟨by kernel_rfl, ?_⟩)))))
          (repeat refine And.intro (by first | omega | (unfold maxLen; omega) | kernel_rfl | (refine ⟨by first | omega | (unfold maxLen; omega), by first | omega | (unfold maxLen; omega)⟩) | grind) ?_)
          try (simp [go_sem, hgl]; try (refine ⟨by kernel_rfl, ?_⟩))
          (repeat refine And.intro (by first | omega | (unfold maxLen; omega) | kernel_rfl | (refine ⟨by first | omega | (unfold maxLen; omega), by first | omega | (unfold maxLen; omega)⟩) | grind) ?_)
          first | refine callG_intro (fun hg => hdm) rfl (by simp [go_sem]) rfl ?_ | refine callGT_intro (fun hg => hdm) rfl (by simp [go_sem]) rfl ?_
          try (simp [go_sem, hgl]; try (refine ⟨by kernel_rfl, ?_⟩))
          (repeat (first | refine awp_seq ?_ | refine awp_block ?_ | (refine awp_runG [0, 1, 2, 3, 4, 10, 11, 12, 13, 14, 15, 16, 17, 18, 19, 20, 21, 22, 23, 37, 46, 55, 67, 94, 148, 160] hX ?_; (simp [go_sem, hgl]; try (refine ⟨by kernel_rfl, ?_⟩))) | (refine awp_drawnG [0, 1, 2, 3, 4, 10, 11, 12, 13, 14, 15, 16, 17, 18, 19, 20, 21, 22, 23, 37, 46, 55, 67, 94, 148, 160] hX mixed ?_; (simp [go_sem, hgl]; try (refine ⟨by kernel_rfl, ?_⟩))) | (refine awp_ret ?_; (simp [go_sem, hgl]; try (refine ⟨by kernel_rfl, ?_⟩))) | (refine awp_skip ?_; (simp [go_sem, hgl]; try (refine ⟨by kernel_rfl, ?_⟩))) | (refine awp_exit ?_; (simp [go_sem, hgl]; try (refine ⟨by kernel_rfl, ?_⟩)))))

end Go.Proofs.Ytflcmfeafiippaa
