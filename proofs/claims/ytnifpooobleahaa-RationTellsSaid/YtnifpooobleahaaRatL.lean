/-
  Layer 39: the reference's Quota and Proportional.
-/
import Derived.Test.YtnifpooobleahaaRefF
import Derived.Test.YtnifpooobleahaaRatK
import Derived.Test.YtnifpooobleahaaRatF
set_option linter.all false
namespace Go.Proofs.Ytnifpooobleahaa
open Go.RowKit Go.Ab
attribute [local irreducible] AWP Go.Ab.Sub Means MeansH CallK CallG CallT CallGT CallU

set_option maxHeartbeats 4000000 in
set_option maxRecDepth 20000 in
theorem rquota_m (h c s : Int) (hh : 0 ≤ h ∧ h < s) (hc : 0 ≤ c ∧ c ≤ 1099511627776) (hs : s ≤ 1125899906842624) : Means true Try.prog 25 [ii h, ii c, ii s] (.tup [ii (h * c / s), ii (h * c % s)]) := by
  have hs0 : 0 < s := by omega
  have hp : 0 ≤ h * c := Int.mul_nonneg hh.1 hc.1
  have hp2 : h * c ≤ 1125899906842624 * 1099511627776 := Int.mul_le_mul (by omega) hc.2 hc.1 (by omega)
  have hq : 0 ≤ h * c / s := Int.ediv_nonneg hp (by omega)
  have hq2 : h * c / s ≤ c := Int.ediv_le_of_le_mul hs0 (by rw [Int.mul_comm c s]; exact Int.mul_le_mul_of_nonneg_right (by omega) hc.1)
  have hm := Int.emod_nonneg (h * c) (show s ≠ 0 by omega)
  have hm2 := Int.emod_lt_of_pos (h * c) hs0
  have hPz : rz (h * c) := rz_c (by unfold ab; split <;> omega)
  have cM := rMul_ok h c (rz_i (by omega)) (rz_i (by omega)) hPz
  have cD := rDiv_p (h * c) s hPz (rz_i (by omega)) hp hs0
  have inq : ∀ x : Int, 0 ≤ x → x ≤ 1125899906842624 → Means false Try.prog 38 [bigZ x] (.tup [ii x, bb true]) := fun x h1 h2 => by
    have := rInt_m x (rz_i (by omega))
    have e : inI x = true := by unfold inI; rw [decide_eq_true]; omega
    rw [e, if_pos rfl] at this
    exact this
  have i1 := inq (h * c / s) hq (by omega)
  have i2 := inq (h * c % s) hm (by omega)
  generalize h * c = P at *
  generalize P / s = q at *
  generalize P % s = r at *
  refine means_fn true 45 [.tmp 6, .tmp 7] Try.func25 rfl rfl rfl (by simp) (by decide) rfl fun X hX => ?_
  (repeat (first | refine awp_seq ?_ | refine awp_block ?_ | ((first | refine awp_runG [0, 1, 2, 6, 7, 8, 10, 11, 13, 15] hX ?_ | refine awp_drawnG [0, 1, 2, 6, 7, 8, 10, 11, 13, 15] hX mixed ?_ | refine awp_ret ?_ | refine awp_skip ?_ | refine awp_exit ?_); (simp [go_sem]; try (refine ⟨by kernel_rfl, ?_⟩)))))
  first | refine callK_intro (rOf_m h (by omega)) rfl (by simp [go_sem]) rfl ?_ | refine callT_intro (rOf_m h (by omega)) rfl (by simp [go_sem]) rfl ?_
  try (simp [go_sem]; try (refine ⟨by kernel_rfl, ?_⟩))
  first | refine callK_intro (rOf_m c (by omega)) rfl (by simp [go_sem]) rfl ?_ | refine callT_intro (rOf_m c (by omega)) rfl (by simp [go_sem]) rfl ?_
  try (simp [go_sem]; try (refine ⟨by kernel_rfl, ?_⟩))
  first | refine callK_intro (cM) rfl (by simp [go_sem]) rfl ?_ | refine callT_intro (cM) rfl (by simp [go_sem]) rfl ?_
  try (simp [go_sem]; try (refine ⟨by kernel_rfl, ?_⟩))
  (repeat (first | refine awp_seq ?_ | refine awp_block ?_ | ((first | refine awp_runG [0, 1, 2, 6, 7, 8, 10, 11, 13, 15] hX ?_ | refine awp_skip ?_ | refine awp_exit ?_); (simp [go_sem]; try (refine ⟨by kernel_rfl, ?_⟩)))))
  refine awp_drawUG [0, 1, 2, 6, 7, 8, 10, 11, 13, 15] 2 hX mixed ?_; (simp [go_sem]; try (refine ⟨by kernel_rfl, ?_⟩))
  refine callU_intro (rOf_m s (by omega)) rfl (by simp [go_sem]) rfl ?_
  try (simp [go_sem]; try (refine ⟨by kernel_rfl, ?_⟩))
  refine callU_intro (cD) rfl (by simp [go_sem]) rfl ?_
  try (simp [go_sem]; try (refine ⟨by kernel_rfl, ?_⟩))
  refine ⟨⟨by kernel_rfl, by kernel_rfl⟩, ?_⟩
  (repeat (first | refine awp_seq ?_ | refine awp_block ?_ | ((first | refine awp_runG [0, 1, 2, 6, 7, 8, 10, 11, 13, 15] hX ?_ | refine awp_drawnG [0, 1, 2, 6, 7, 8, 10, 11, 13, 15] hX mixed ?_ | refine awp_ret ?_ | refine awp_skip ?_ | refine awp_exit ?_); (simp [go_sem]; try (refine ⟨by kernel_rfl, ?_⟩)))))
  first | refine callK_intro (i1) rfl (by simp [go_sem]) rfl ?_ | refine callT_intro (i1) rfl (by simp [go_sem]) rfl ?_
  try (simp [go_sem]; try (refine ⟨by kernel_rfl, ?_⟩))
  (repeat (first | refine awp_seq ?_ | refine awp_block ?_ | ((first | refine awp_runG [0, 1, 2, 6, 7, 8, 10, 11, 13, 15] hX ?_ | refine awp_drawnG [0, 1, 2, 6, 7, 8, 10, 11, 13, 15] hX mixed ?_ | refine awp_ret ?_ | refine awp_skip ?_ | refine awp_exit ?_); (simp [go_sem]; try (refine ⟨by kernel_rfl, ?_⟩)))))
  first | refine callK_intro (i2) rfl (by simp [go_sem]) rfl ?_ | refine callT_intro (i2) rfl (by simp [go_sem]) rfl ?_
  try (simp [go_sem]; try (refine ⟨by kernel_rfl, ?_⟩))
  (repeat (first | refine awp_seq ?_ | refine awp_block ?_ | ((first | refine awp_runG [0, 1, 2, 6, 7, 8, 10, 11, 13, 15] hX ?_ | refine awp_drawnG [0, 1, 2, 6, 7, 8, 10, 11, 13, 15] hX mixed ?_ | refine awp_ret ?_ | refine awp_skip ?_ | refine awp_exit ?_); (simp [go_sem]; try (refine ⟨by kernel_rfl, ?_⟩)))))

def isBest (M : List Int) (i b : Nat) : Prop := ∃ hb : b < M.length, (∀ j (hj : j < M.length), j < i → M[j] ≤ M[b]) ∧ (∀ j (hj : j < M.length), j < b → M[j] < M[b])
set_option maxHeartbeats 16000000 in
set_option maxRecDepth 20000 in
theorem rprop_m (C : List Int) (hC : C.length ≤ 9223372036854775807) (h : Int) : Means true Try.prog 11 [il C, ii h] (.tup [il (if rightC C h then prop C h else []), ii (if rightC C h then 0 else 1)]) := by
  cases hr : rightC C h with
  | false =>
    rw [if_neg (by simp), if_neg (by simp)]
    refine means_fn true 87 [.tmp 4, .tmp 5] Try.func11 rfl rfl rfl (by simp) (by decide) rfl fun X hX => ?_
    (repeat (first | refine awp_seq ?_ | refine awp_block ?_ | ((first | refine awp_runG [0, 1, 4, 5, 6, 7, 8, 9, 10, 11, 12, 13, 14, 18, 23, 30, 56, 62, 73] hX ?_ | refine awp_drawnG [0, 1, 4, 5, 6, 7, 8, 9, 10, 11, 12, 13, 14, 18, 23, 30, 56, 62, 73] hX mixed ?_ | refine awp_ret ?_ | refine awp_skip ?_ | refine awp_exit ?_); (simp [go_sem]; try (refine ⟨by kernel_rfl, ?_⟩)))))
    first | refine callK_intro (right_m' C hC h) rfl (by simp [go_sem]) rfl ?_ | refine callT_intro (right_m' C hC h) rfl (by simp [go_sem]) rfl ?_
    try (simp [go_sem]; try (refine ⟨by kernel_rfl, ?_⟩))
    refine awp_cond (b := true) (by simp [go_sem, hr]) (fun _ => ?_) (fun h => by cases h)
    (repeat (first | refine awp_seq ?_ | refine awp_block ?_ | ((first | refine awp_runG [0, 1, 4, 5, 6, 7, 8, 9, 10, 11, 12, 13, 14, 18, 23, 30, 56, 62, 73] hX ?_ | refine awp_drawnG [0, 1, 4, 5, 6, 7, 8, 9, 10, 11, 12, 13, 14, 18, 23, 30, 56, 62, 73] hX mixed ?_ | refine awp_ret ?_ | refine awp_skip ?_ | refine awp_exit ?_); (simp [go_sem]; try (refine ⟨by kernel_rfl, ?_⟩)))))
  | true =>
    have hr2 := hr
    simp only [rightC, okH, Bool.and_eq_true, decide_eq_true_eq] at hr2
    obtain ⟨hok, ⟨hlen, hh0⟩, hh1⟩ := hr2
    have hsb := sum_bd hok
    have hCb : ∀ x ∈ C, 0 ≤ x ∧ x ≤ 1099511627776 := fun x hx => okC_mem hok hx
    have cS := sum_m C (by omega) (fun x hx => by have := hCb x hx; omega)
    rw [if_pos rfl, if_pos rfl]
    refine means_fn true 87 [.tmp 4, .tmp 5] Try.func11 rfl rfl rfl (by simp) (by decide) rfl fun X hX => ?_
    (repeat (first | refine awp_seq ?_ | refine awp_block ?_ | ((first | refine awp_runG [0, 1, 4, 5, 6, 7, 8, 9, 10, 11, 12, 13, 14, 18, 23, 30, 56, 62, 73] hX ?_ | refine awp_drawnG [0, 1, 4, 5, 6, 7, 8, 9, 10, 11, 12, 13, 14, 18, 23, 30, 56, 62, 73] hX mixed ?_ | refine awp_ret ?_ | refine awp_skip ?_ | refine awp_exit ?_); (simp [go_sem]; try (refine ⟨by kernel_rfl, ?_⟩)))))
    first | refine callK_intro (right_m' C hC h) rfl (by simp [go_sem]) rfl ?_ | refine callT_intro (right_m' C hC h) rfl (by simp [go_sem]) rfl ?_
    try (simp [go_sem]; try (refine ⟨by kernel_rfl, ?_⟩))
    refine awp_cond (b := false) (by simp [go_sem, hr]) (fun h => by cases h) (fun _ => ?_)
    (repeat (first | refine awp_seq ?_ | refine awp_block ?_ | ((first | refine awp_runG [0, 1, 4, 5, 6, 7, 8, 9, 10, 11, 12, 13, 14, 18, 23, 30, 56, 62, 73] hX ?_ | refine awp_drawnG [0, 1, 4, 5, 6, 7, 8, 9, 10, 11, 12, 13, 14, 18, 23, 30, 56, 62, 73] hX mixed ?_ | refine awp_ret ?_ | refine awp_skip ?_ | refine awp_exit ?_); (simp [go_sem]; try (refine ⟨by kernel_rfl, ?_⟩)))))
    first | refine callK_intro (cS) rfl (by simp [go_sem]) rfl ?_ | refine callT_intro (cS) rfl (by simp [go_sem]) rfl ?_
    try (simp [go_sem]; try (refine ⟨by kernel_rfl, ?_⟩))
    (repeat (first | refine awp_seq ?_ | refine awp_block ?_ | ((first | refine awp_runG [0, 1, 4, 5, 6, 7, 8, 9, 10, 11, 12, 13, 14, 18, 23, 30, 56, 62, 73] hX ?_ | refine awp_drawnG [0, 1, 4, 5, 6, 7, 8, 9, 10, 11, 12, 13, 14, 18, 23, 30, 56, 62, 73] hX mixed ?_ | refine awp_ret ?_ | refine awp_skip ?_ | refine awp_exit ?_); (simp [go_sem]; try (refine ⟨by kernel_rfl, ?_⟩)))))
    by_cases hs : sumL C ≤ h
    · have e : prop C h = C := if_pos hs
      rw [e]
      refine awp_cond (b := true) (by simp [go_sem, hs]) (fun _ => ?_) (fun h => by cases h)
      (repeat (first | refine awp_seq ?_ | refine awp_block ?_ | ((first | refine awp_runG [0, 1, 4, 5, 6, 7, 8, 9, 10, 11, 12, 13, 14, 18, 23, 30, 56, 62, 73] hX ?_ | refine awp_drawnG [0, 1, 4, 5, 6, 7, 8, 9, 10, 11, 12, 13, 14, 18, 23, 30, 56, 62, 73] hX mixed ?_ | refine awp_ret ?_ | refine awp_skip ?_ | refine awp_exit ?_); (simp [go_sem]; try (refine ⟨by kernel_rfl, ?_⟩)))))
      (repeat refine And.intro (by first | omega | (unfold maxLen; omega) | kernel_rfl | (refine ⟨by first | omega | (unfold maxLen; omega), by first | omega | (unfold maxLen; omega)⟩) | grind) ?_)
      (repeat (first | refine awp_seq ?_ | refine awp_block ?_ | ((first | refine awp_runG [0, 1, 4, 5, 6, 7, 8, 9, 10, 11, 12, 13, 14, 18, 23, 30, 56, 62, 73] hX ?_ | refine awp_drawnG [0, 1, 4, 5, 6, 7, 8, 9, 10, 11, 12, 13, 14, 18, 23, 30, 56, 62, 73] hX mixed ?_ | refine awp_ret ?_ | refine awp_skip ?_ | refine awp_exit ?_); (simp [go_sem]; try (refine ⟨by kernel_rfl, ?_⟩)))))
    · have hs0 : 0 < sumL C := by omega
      have hlb := left_bd (h := h) hs0
      have hpe : prop C h = bumps (qF h (sumL C) C) ((srt (kf (rF h (sumL C) C)) (idxI C.length)).take (h - sumL (qF h (sumL C) C)).toNat) := if_neg hs
      rw [hpe]
      refine awp_cond (b := false) (by simp [go_sem]; omega) (fun h => by cases h) (fun _ => ?_)
      have hrok : okR (rF h (sumL C) C) := rF_ok (by omega) C
      generalize sumL C = s at *
      have hqb := qF_bd (h := h) (s := s) ⟨hh0, by omega⟩ hok
      have cQ := sum_m (qF h s C) (by rw [qF_len]; omega) (fun x hx => by have := hqb x hx; omega)
      have hwq := w64 (x := h - sumL (qF h s C)) (by omega) (by omega)
      (repeat (first | refine awp_seq ?_ | refine awp_block ?_ | ((first | refine awp_runG [0, 1, 4, 5, 6, 7, 8, 9, 10, 11, 12, 13, 14, 18, 23, 30, 56, 62, 73] hX ?_ | refine awp_drawnG [0, 1, 4, 5, 6, 7, 8, 9, 10, 11, 12, 13, 14, 18, 23, 30, 56, 62, 73] hX mixed ?_ | refine awp_ret ?_ | refine awp_skip ?_ | refine awp_exit ?_); (simp [go_sem]; try (refine ⟨by kernel_rfl, ?_⟩)))))
      refine awp_loop (fun k : Nat => ⟨mkE [(0, il C), (1, ii h), (6, ii s), (7, .ow 0), (8, .ow 1), (9, ii k)], [rowI (qF h s (C.take k)), rowI (rF h s (C.take k))]⟩) (fun k => k ≤ C.length) (fun k => C.length - k) 0 ?_ ?_ ?_
      · refine sub_of _ [.birth 3 1, .birth 3 1] (by simp [go_sem, qF, rF]) ?_
        simp [go_sem, qF, rF]
      · omega
      · intro k hk
        have hll : (qF h s (C.take k)).length = k := by rw [qF_len]; simp; omega
        have hlr : (rF h s (C.take k)).length = k := by rw [rF_len]; simp; omega
        (repeat (first | refine awp_seq ?_ | refine awp_block ?_ | ((first | refine awp_runG [0, 1, 4, 5, 6, 7, 8, 9, 10, 11, 12, 13, 14, 18, 23, 30, 56, 62, 73] hX ?_ | refine awp_drawnG [0, 1, 4, 5, 6, 7, 8, 9, 10, 11, 12, 13, 14, 18, 23, 30, 56, 62, 73] hX mixed ?_ | refine awp_ret ?_ | refine awp_skip ?_ | refine awp_exit ?_); (simp [go_sem]; try (refine ⟨by kernel_rfl, ?_⟩)))))
        refine awp_cond (b := decide (k < C.length)) (by simp [go_sem]) (fun hc => ?_) (fun hc => ?_)
        · simp at hc
          have hcr := hCb _ (List.getElem_mem hc)
          have eq1 := qF_succ (h := h) (s := s) hc
          have er1 := rF_succ (h := h) (s := s) hc
          have cq := rquota_m h C[k] s ⟨hh0, by omega⟩ hcr (by omega)
          obtain ⟨q, hq⟩ : ∃ q, h * C[k] / s = q := ⟨_, rfl⟩
          obtain ⟨r, hr⟩ : ∃ r, h * C[k] % s = r := ⟨_, rfl⟩
          rw [hq] at eq1 cq
          rw [hr] at er1 cq
          have wk := w64 (x := (k : Int) + 1) (by omega) (by omega)
          generalize qF h s (C.take k) = A at *
          generalize rF h s (C.take k) = B at *
          (repeat (first | refine awp_seq ?_ | refine awp_block ?_ | ((first | refine awp_runG [0, 1, 4, 5, 6, 7, 8, 9, 10, 11, 12, 13, 14, 18, 23, 30, 56, 62, 73] hX ?_ | refine awp_drawnG [0, 1, 4, 5, 6, 7, 8, 9, 10, 11, 12, 13, 14, 18, 23, 30, 56, 62, 73] hX mixed ?_ | refine awp_ret ?_ | refine awp_skip ?_ | refine awp_exit ?_); (simp [go_sem, hc]; try (refine ⟨by kernel_rfl, ?_⟩)))))
          first | refine callK_intro (cq) rfl (by simp [go_sem]) rfl ?_ | refine callT_intro (cq) rfl (by simp [go_sem]) rfl ?_
          try (simp [go_sem]; try (refine ⟨by kernel_rfl, ?_⟩))
          (repeat (first | refine awp_seq ?_ | refine awp_block ?_ | ((first | refine awp_runG [0, 1, 4, 5, 6, 7, 8, 9, 10, 11, 12, 13, 14, 18, 23, 30, 56, 62, 73] hX ?_ | refine awp_drawnG [0, 1, 4, 5, 6, 7, 8, 9, 10, 11, 12, 13, 14, 18, 23, 30, 56, 62, 73] hX mixed ?_ | refine awp_ret ?_ | refine awp_skip ?_ | refine awp_exit ?_); (simp [go_sem, hll, hlr]; try (refine ⟨by kernel_rfl, ?_⟩)))))
          try (repeat refine And.intro (by first | omega | (unfold maxLen; omega) | kernel_rfl | (refine ⟨by first | omega | (unfold maxLen; omega), by first | omega | (unfold maxLen; omega)⟩) | grind) ?_)
          try (repeat (first | refine awp_seq ?_ | refine awp_block ?_ | ((first | refine awp_runG [0, 1, 4, 5, 6, 7, 8, 9, 10, 11, 12, 13, 14, 18, 23, 30, 56, 62, 73] hX ?_ | refine awp_drawnG [0, 1, 4, 5, 6, 7, 8, 9, 10, 11, 12, 13, 14, 18, 23, 30, 56, 62, 73] hX mixed ?_ | refine awp_ret ?_ | refine awp_skip ?_ | refine awp_exit ?_); (simp [go_sem, hll, hlr]; try (refine ⟨by kernel_rfl, ?_⟩)))))
          try (repeat refine And.intro (by first | omega | (unfold maxLen; omega) | kernel_rfl | (refine ⟨by first | omega | (unfold maxLen; omega), by first | omega | (unfold maxLen; omega)⟩) | grind) ?_)
          try (repeat (first | refine awp_seq ?_ | refine awp_block ?_ | ((first | refine awp_runG [0, 1, 4, 5, 6, 7, 8, 9, 10, 11, 12, 13, 14, 18, 23, 30, 56, 62, 73] hX ?_ | refine awp_drawnG [0, 1, 4, 5, 6, 7, 8, 9, 10, 11, 12, 13, 14, 18, 23, 30, 56, 62, 73] hX mixed ?_ | refine awp_ret ?_ | refine awp_skip ?_ | refine awp_exit ?_); (simp [go_sem, hll, hlr, wk]; try (refine ⟨by kernel_rfl, ?_⟩)))))
          refine ⟨k + 1, by omega, by omega, ?_⟩
          rw [eq1, er1]
          refine sub_of _ [.old 3 ⟨3, 1, (A ++ [q]).map ii⟩, .old 5 ⟨3, 1, (B ++ [r]).map ii⟩] (by simp [go_sem]) ?_
          simp [go_sem]
          try omega
        · have hkl : k = C.length := by simp at hc; omega
          subst hkl
          rw [List.take_length] at hll hlr ⊢
          obtain ⟨m, hm⟩ : ∃ m : Nat, (m : Int) = h - sumL (qF h s C) := ⟨(h - sumL (qF h s C)).toNat, by omega⟩
          have hmt : (h - sumL (qF h s C)).toNat = m := by omega
          rw [hmt]
          have hwq : IntKind.i64.wrap (h - sumL (qF h s C)) = m := by rw [hwq, hm]
          have hml : m ≤ C.length := by omega
          have hRn : ∀ r ∈ rF h s C, 0 ≤ r := fun r hr => (hrok r hr).1
          have hRb : ∀ r ∈ rF h s C, r ≤ 4611686018427387904 := fun r hr => (hrok r hr).2
          have hnb := fun O hO k hk b hb hb' h1 h2 => next_best (R := rF h s C) hRn (O := O) hO (k := k) hk (b := b) hb hb' h1 h2
          rw [hlr] at hnb
          obtain ⟨O, hO⟩ : ∃ O, srt (kf (rF h s C)) (idxI C.length) = O := ⟨_, rfl⟩
          have hnb := hnb O hO.symm
          rw [hO]
          have hOl : O.length = C.length := by rw [← hO, srt_len, idxI_len]
          have hOm : ∀ x ∈ O, 0 ≤ x ∧ x < C.length := fun x hx => by
            rw [← hO] at hx
            exact idxI_mem.1 ((srt_perm _ _).mem_iff.1 hx)
          have hml2 : ∀ O', (marks (rF h s C) O').length = C.length := fun O' => by rw [marks_len, hlr]
          have hb0 : ∀ O', (bumps (qF h s C) O').length = C.length := fun O' => by rw [bumps_len, hll]
          have hbd := fun O' => bumps_bd O' hqb
          have m0 : marks (rF h s C) (O.take 0) = rF h s C := rfl
          have b0 : bumps (qF h s C) (O.take 0) = qF h s C := rfl
          have hms := fun j hj => marks_succ (R := rF h s C) (O := O) (k := j) hj
          have hbs := fun j hj => bumps_succ (L := qF h s C) (O := O) (k := j) hj
          generalize hQ : qF h s C = Q at *
          generalize hRR : rF h s C = R at *
          (repeat (first | refine awp_seq ?_ | refine awp_block ?_ | ((first | refine awp_runG [0, 1, 4, 5, 6, 7, 8, 9, 10, 11, 12, 13, 14, 18, 23, 30, 56, 62, 73] hX ?_ | refine awp_drawnG [0, 1, 4, 5, 6, 7, 8, 9, 10, 11, 12, 13, 14, 18, 23, 30, 56, 62, 73] hX mixed ?_ | refine awp_ret ?_ | refine awp_skip ?_ | refine awp_exit ?_); (simp [go_sem]; try (refine ⟨by kernel_rfl, ?_⟩)))))
          first | refine callK_intro (cQ) rfl (by simp [go_sem]) rfl ?_ | refine callT_intro (cQ) rfl (by simp [go_sem]) rfl ?_
          try (simp [go_sem]; try (refine ⟨by kernel_rfl, ?_⟩))
          (repeat (first | refine awp_seq ?_ | refine awp_block ?_ | ((first | refine awp_runG [0, 1, 4, 5, 6, 7, 8, 9, 10, 11, 12, 13, 14, 18, 23, 30, 56, 62, 73] hX ?_ | refine awp_drawnG [0, 1, 4, 5, 6, 7, 8, 9, 10, 11, 12, 13, 14, 18, 23, 30, 56, 62, 73] hX mixed ?_ | refine awp_ret ?_ | refine awp_skip ?_ | refine awp_exit ?_); (simp [go_sem, hwq]; try (refine ⟨by kernel_rfl, ?_⟩)))))
          refine awp_loop (fun j : Nat => ⟨mkE [(7, .ow 0), (8, .ow 1), (12, ii ((m : Int) - j))], [rowI (bumps Q (O.take j)), rowI (marks R (O.take j))]⟩) (fun j => j ≤ m) (fun j => m - j) 0 ?_ ?_ ?_
          · rw [m0, b0]
            refine sub_of _ [.old 0 ⟨3, 1, Q.map ii⟩, .old 1 ⟨3, 1, R.map ii⟩] (by simp [go_sem]) ?_
            simp [go_sem, hwq]
          · omega
          · intro j hj
            have hlB := hb0 (O.take j)
            have hlM := hml2 (O.take j)
            have wj := w64 (x := (m : Int) - j - 1) (by omega) (by omega)
            (repeat (first | refine awp_seq ?_ | refine awp_block ?_ | ((first | refine awp_runG [0, 1, 4, 5, 6, 7, 8, 9, 10, 11, 12, 13, 14, 18, 23, 30, 56, 62, 73] hX ?_ | refine awp_drawnG [0, 1, 4, 5, 6, 7, 8, 9, 10, 11, 12, 13, 14, 18, 23, 30, 56, 62, 73] hX mixed ?_ | refine awp_ret ?_ | refine awp_skip ?_ | refine awp_exit ?_); (simp [go_sem]; try (refine ⟨by kernel_rfl, ?_⟩)))))
            refine awp_cond (b := decide (j < m)) (by simp [go_sem]; try omega) (fun hc => ?_) (fun hc => ?_)
            · simp at hc
              have hjO : j < O.length := by omega
              have n1 := fun b hb hb' h1 h2 => hnb j hjO b hb hb' h1 h2
              have n2 := hms j hjO
              have n3 := hbs j hjO
              have n4 := hbd (O.take j)
              have n5 : (O.take j).length ≤ 400 := by rw [List.length_take]; omega
              have hx := hOm O[j] (List.getElem_mem hjO)
              generalize bumps Q (O.take j) = B at *
              generalize marks R (O.take j) = M at *
              (repeat (first | refine awp_seq ?_ | refine awp_block ?_ | ((first | refine awp_runG [0, 1, 4, 5, 6, 7, 8, 9, 10, 11, 12, 13, 14, 18, 23, 30, 56, 62, 73] hX ?_ | refine awp_drawnG [0, 1, 4, 5, 6, 7, 8, 9, 10, 11, 12, 13, 14, 18, 23, 30, 56, 62, 73] hX mixed ?_ | refine awp_ret ?_ | refine awp_skip ?_ | refine awp_exit ?_); (simp [go_sem]; try (refine ⟨by kernel_rfl, ?_⟩)))))
              refine awp_loop (fun x : Nat × Nat => ⟨mkE [(7, .ow 0), (8, .ow 1), (12, ii ((m : Int) - j)), (13, ii x.2), (14, ii x.1)], [rowI B, rowI M]⟩)
                (fun x => x.1 ≤ C.length ∧ x.2 < C.length ∧ isBest M x.1 x.2) (fun x => C.length - x.1) (0, 0) ?_ ?_ ?_
              · refine sub_of _ [.old 0 ⟨3, 1, B.map ii⟩, .old 1 ⟨3, 1, M.map ii⟩] (by simp [go_sem]) ?_
                simp [go_sem]
              · refine ⟨by simp, by show 0 < C.length; omega, ⟨by show 0 < M.length; omega, fun i hi h => ?_, fun i hi h => ?_⟩⟩ <;> exact absurd h (by show ¬ i < 0; omega)
              · rintro ⟨i, b⟩ ⟨g1, g2, g3⟩
                simp only [] at g1 g2 g3
                obtain ⟨g3, g4, g5⟩ := g3
                have wi := w64 (x := (i : Int) + 1) (by omega) (by omega)
                (repeat (first | refine awp_seq ?_ | refine awp_block ?_ | ((first | refine awp_runG [0, 1, 4, 5, 6, 7, 8, 9, 10, 11, 12, 13, 14, 18, 23, 30, 56, 62, 73] hX ?_ | refine awp_drawnG [0, 1, 4, 5, 6, 7, 8, 9, 10, 11, 12, 13, 14, 18, 23, 30, 56, 62, 73] hX mixed ?_ | refine awp_ret ?_ | refine awp_skip ?_ | refine awp_exit ?_); (simp [go_sem, hlM]; try (refine ⟨by kernel_rfl, ?_⟩)))))
                refine awp_cond (b := decide (i < C.length)) (by simp [go_sem, hlM]) (fun hd => ?_) (fun hd => ?_)
                · simp at hd
                  have hiM : i < M.length := by omega
                  (repeat (first | refine awp_seq ?_ | refine awp_block ?_ | ((first | refine awp_runG [0, 1, 4, 5, 6, 7, 8, 9, 10, 11, 12, 13, 14, 18, 23, 30, 56, 62, 73] hX ?_ | refine awp_drawnG [0, 1, 4, 5, 6, 7, 8, 9, 10, 11, 12, 13, 14, 18, 23, 30, 56, 62, 73] hX mixed ?_ | refine awp_ret ?_ | refine awp_skip ?_ | refine awp_exit ?_); (simp [go_sem, hiM, g3]; try (refine ⟨by kernel_rfl, ?_⟩)))))
                  try (repeat refine And.intro (by first | omega | (unfold maxLen; omega) | kernel_rfl | (refine ⟨by first | omega | (unfold maxLen; omega), by first | omega | (unfold maxLen; omega)⟩) | grind) ?_)
                  refine awp_cond (b := decide (M[b] < M[i])) (by simp [go_sem, hiM, g3]) (fun he => ?_) (fun he => ?_)
                  · simp at he
                    (repeat (first | refine awp_seq ?_ | refine awp_block ?_ | ((first | refine awp_runG [0, 1, 4, 5, 6, 7, 8, 9, 10, 11, 12, 13, 14, 18, 23, 30, 56, 62, 73] hX ?_ | refine awp_drawnG [0, 1, 4, 5, 6, 7, 8, 9, 10, 11, 12, 13, 14, 18, 23, 30, 56, 62, 73] hX mixed ?_ | refine awp_ret ?_ | refine awp_skip ?_ | refine awp_exit ?_); (simp [go_sem, wi]; try (refine ⟨by kernel_rfl, ?_⟩)))))
                    refine ⟨i + 1, i, ⟨by omega, by omega, ⟨hiM, fun q hq h => ?_, fun q hq h => ?_⟩⟩, by omega, ?_⟩
                    · by_cases hqi : q = i
                      · subst hqi; exact Int.le_refl _
                      · have := g4 q hq (by omega); omega
                    · have := g4 q hq h; omega
                    · refine sub_of _ [.old 0 ⟨3, 1, B.map ii⟩, .old 1 ⟨3, 1, M.map ii⟩] (by simp [go_sem]) ?_
                      simp [go_sem]
                  · simp at he
                    (repeat (first | refine awp_seq ?_ | refine awp_block ?_ | ((first | refine awp_runG [0, 1, 4, 5, 6, 7, 8, 9, 10, 11, 12, 13, 14, 18, 23, 30, 56, 62, 73] hX ?_ | refine awp_drawnG [0, 1, 4, 5, 6, 7, 8, 9, 10, 11, 12, 13, 14, 18, 23, 30, 56, 62, 73] hX mixed ?_ | refine awp_ret ?_ | refine awp_skip ?_ | refine awp_exit ?_); (simp [go_sem, wi]; try (refine ⟨by kernel_rfl, ?_⟩)))))
                    refine ⟨i + 1, b, ⟨by omega, by omega, ⟨g3, fun q hq h => ?_, g5⟩⟩, by omega, ?_⟩
                    · by_cases hqi : q = i
                      · subst hqi; omega
                      · exact g4 q hq (by omega)
                    · refine sub_of _ [.old 0 ⟨3, 1, B.map ii⟩, .old 1 ⟨3, 1, M.map ii⟩] (by simp [go_sem]) ?_
                      simp [go_sem]
                · have hin : i = C.length := by simp at hd; omega
                  have e := n1 b g2 g3 (fun q hq => g4 q hq (by omega)) (fun q hq h => g5 q hq h)
                  rw [e] at n2 n3
                  have hbB : b < B.length := by omega
                  have hv := n4 B[b] (List.getElem_mem hbB)
                  have wv := w64 (x := B[b] + 1) (by omega) (by omega)
                  have hbe : bump B (b : Int) = B.set b (B[b] + 1) := by
                    unfold bump
                    rw [Int.toNat_natCast, List.getD_eq_getElem?_getD, List.getElem?_eq_getElem hbB]; rfl
                  rw [hbe] at n3
                  rw [Int.toNat_natCast] at n2
                  (repeat (first | refine awp_seq ?_ | refine awp_block ?_ | ((first | refine awp_runG [0, 1, 4, 5, 6, 7, 8, 9, 10, 11, 12, 13, 14, 18, 23, 30, 56, 62, 73] hX ?_ | refine awp_drawnG [0, 1, 4, 5, 6, 7, 8, 9, 10, 11, 12, 13, 14, 18, 23, 30, 56, 62, 73] hX mixed ?_ | refine awp_ret ?_ | refine awp_skip ?_ | refine awp_exit ?_); (simp [go_sem, hbB, g3, wv, wj]; try (refine ⟨by kernel_rfl, ?_⟩)))))
                  try (repeat refine And.intro (by first | omega | (unfold maxLen; omega) | kernel_rfl | (refine ⟨by first | omega | (unfold maxLen; omega), by first | omega | (unfold maxLen; omega)⟩) | grind) ?_)
                  try (repeat (first | refine awp_seq ?_ | refine awp_block ?_ | ((first | refine awp_runG [0, 1, 4, 5, 6, 7, 8, 9, 10, 11, 12, 13, 14, 18, 23, 30, 56, 62, 73] hX ?_ | refine awp_drawnG [0, 1, 4, 5, 6, 7, 8, 9, 10, 11, 12, 13, 14, 18, 23, 30, 56, 62, 73] hX mixed ?_ | refine awp_ret ?_ | refine awp_skip ?_ | refine awp_exit ?_); (simp [go_sem, hbB, g3, wv, wj]; try (refine ⟨by kernel_rfl, ?_⟩)))))
                  try (repeat refine And.intro (by first | omega | (unfold maxLen; omega) | kernel_rfl | (refine ⟨by first | omega | (unfold maxLen; omega), by first | omega | (unfold maxLen; omega)⟩) | grind) ?_)
                  try (repeat (first | refine awp_seq ?_ | refine awp_block ?_ | ((first | refine awp_runG [0, 1, 4, 5, 6, 7, 8, 9, 10, 11, 12, 13, 14, 18, 23, 30, 56, 62, 73] hX ?_ | refine awp_drawnG [0, 1, 4, 5, 6, 7, 8, 9, 10, 11, 12, 13, 14, 18, 23, 30, 56, 62, 73] hX mixed ?_ | refine awp_ret ?_ | refine awp_skip ?_ | refine awp_exit ?_); (simp [go_sem, hbB, g3, wv, wj]; try (refine ⟨by kernel_rfl, ?_⟩)))))
                  refine ⟨j + 1, by omega, by omega, ?_⟩
                  rw [n2, n3]
                  refine sub_of _ [.old 0 ⟨3, 1, (B.set b (B[b] + 1)).map ii⟩, .old 1 ⟨3, 1, (M.set b (-1 : Int)).map ii⟩] (by simp [go_sem]) ?_
                  simp [go_sem]
                  try omega
            · have : j = m := by simp at hc; omega
              subst this
              (repeat (first | refine awp_seq ?_ | refine awp_block ?_ | ((first | refine awp_runG [0, 1, 4, 5, 6, 7, 8, 9, 10, 11, 12, 13, 14, 18, 23, 30, 56, 62, 73] hX ?_ | refine awp_drawnG [0, 1, 4, 5, 6, 7, 8, 9, 10, 11, 12, 13, 14, 18, 23, 30, 56, 62, 73] hX mixed ?_ | refine awp_ret ?_ | refine awp_skip ?_ | refine awp_exit ?_); (simp [go_sem]; try (refine ⟨by kernel_rfl, ?_⟩)))))

end Go.Proofs.Ytnifpooobleahaa
