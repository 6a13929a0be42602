/-
  Layer 37: the law PremiumSums.
-/
import Derived.Test.YtlcmmaokfbjojaaPreF
set_option linter.all false
namespace Go.Proofs.Ytlcmmaokfbjojaa
open Go.RowKit Go.Ab
attribute [local irreducible] AWP Go.Ab.Sub Means MeansH CallK CallG CallT CallGT CallU

theorem sumL_sub' : ∀ {A B F : List Int}, A.length = B.length → F.length = A.length → (∀ i (h : i < F.length) (h1 : i < A.length) (h2 : i < B.length), F[i] = A[i] - B[i]) → sumL F = sumL A - sumL B
  | [], [], F, _, h, _ => by have : F = [] := List.length_eq_zero_iff.1 (by simpa using h); subst this; rfl
  | [], b :: B, _, h, _, _ => by simp at h
  | a :: A, [], _, h, _, _ => by simp at h
  | a :: A, b :: B, [], _, h, _ => by simp at h
  | a :: A, b :: B, f :: F, h1, h2, h3 => by
    have h0 := h3 0 (by simp) (by simp) (by simp)
    have ih := sumL_sub' (A := A) (B := B) (F := F) (by simpa using h1) (by simpa using h2) fun i h h' h'' => by
      have := h3 (i + 1) (by simp; omega) (by simp; omega) (by simp; omega)
      simpa using this
    simp only [List.getElem_cons_zero] at h0
    simp only [sumL_cons]; omega

theorem left_m' {q : List Int} {B : Int} (h : ∀ x ∈ q, 0 ≤ x ∧ x ≤ B) (hB : 0 ≤ B) (k : Nat) : 0 ≤ sumL (q.take k) ∧ sumL (q.take k) ≤ (q.take k).length * B := by
  have : ∀ l : List Int, (∀ x ∈ l, 0 ≤ x ∧ x ≤ B) → 0 ≤ sumL l ∧ sumL l ≤ l.length * B := by
    intro l
    induction l with
    | nil => intro _; simp
    | cons a l ih =>
      intro h
      have h1 := h a (by simp)
      have h2 := ih fun x hx => h x (List.mem_cons_of_mem _ hx)
      simp only [sumL_cons, List.length_cons]; push_cast; rw [Int.add_mul]; omega
  exact this (q.take k) fun x hx => h x (List.mem_of_mem_take hx)
theorem nth_set_ii' {L : List Int} {k : Nat} {v : Int} (h : k < L.length) : nth ((L.map ii).set k (ii v)) k = ii v := by
  have e : (L.map ii).set k (ii v) = (L.set k v).map ii := by rw [List.map_set]
  rw [e, nth_ii (by simpa using h)]
  simp

set_option maxHeartbeats 32000000 in
set_option maxRecDepth 20000 in
theorem premiumSums_m (C : List Int) (hl : C.length ≤ 9223372036854775807) (b : Int) (p : Int) (hp : 0 ≤ p ∧ p ≤ 255) : Means false Try.prog 5 [il C, ii b, .v (.int .u8 p)] (bb true) := by
  refine means_fn false 167 [.tmp 6] Try.func5 rfl rfl rfl (by simp) (by decide) rfl fun X hX => ?_
  (repeat (first | refine awp_seq ?_ | refine awp_block ?_ | ((first | refine awp_runG [0, 1, 2, 6, 7, 8, 9, 10, 11, 12, 13, 14, 15, 16, 17, 18, 19, 20, 21, 22, 23, 33, 50, 54, 67, 75, 82, 90, 106, 109, 157, 162] hX ?_ | refine awp_drawnG [0, 1, 2, 6, 7, 8, 9, 10, 11, 12, 13, 14, 15, 16, 17, 18, 19, 20, 21, 22, 23, 33, 50, 54, 67, 75, 82, 90, 106, 109, 157, 162] hX mixed ?_ | refine awp_ret ?_ | refine awp_skip ?_ | refine awp_exit ?_); (simp [go_sem]; try (refine ⟨by kernel_rfl, ?_⟩)))))
  first | refine callK_intro (small_m) rfl (by simp [go_sem]) rfl ?_ | refine callT_intro (small_m) rfl (by simp [go_sem]) rfl ?_
  try (simp [go_sem]; try (refine ⟨by kernel_rfl, ?_⟩))
  (repeat (first | refine awp_seq ?_ | refine awp_block ?_ | ((first | refine awp_runG [0, 1, 2, 6, 7, 8, 9, 10, 11, 12, 13, 14, 15, 16, 17, 18, 19, 20, 21, 22, 23, 33, 50, 54, 67, 75, 82, 90, 106, 109, 157, 162] hX ?_ | refine awp_drawnG [0, 1, 2, 6, 7, 8, 9, 10, 11, 12, 13, 14, 15, 16, 17, 18, 19, 20, 21, 22, 23, 33, 50, 54, 67, 75, 82, 90, 106, 109, 157, 162] hX mixed ?_ | refine awp_ret ?_ | refine awp_skip ?_ | refine awp_exit ?_); (simp [go_sem]; try (refine ⟨by kernel_rfl, ?_⟩)))))
  first | refine callG_intro (fun hg => rright_m C hl b) rfl (by simp [go_sem]) rfl ?_ | refine callGT_intro (fun hg => rright_m C hl b) rfl (by simp [go_sem]) rfl ?_
  try (simp [go_sem]; try (refine ⟨by kernel_rfl, ?_⟩))
  refine awp_cond (b := decide (20 < (C.length : Int)) || !rightP C b) (by simp [go_sem]) (fun hb => ?_) (fun hb => ?_)
  · (repeat (first | refine awp_seq ?_ | refine awp_block ?_ | ((first | refine awp_runG [0, 1, 2, 6, 7, 8, 9, 10, 11, 12, 13, 14, 15, 16, 17, 18, 19, 20, 21, 22, 23, 33, 50, 54, 67, 75, 82, 90, 106, 109, 157, 162] hX ?_ | refine awp_drawnG [0, 1, 2, 6, 7, 8, 9, 10, 11, 12, 13, 14, 15, 16, 17, 18, 19, 20, 21, 22, 23, 33, 50, 54, 67, 75, 82, 90, 106, 109, 157, 162] hX mixed ?_ | refine awp_ret ?_ | refine awp_skip ?_ | refine awp_exit ?_); (simp [go_sem]; try (refine ⟨by kernel_rfl, ?_⟩)))))
  simp at hb
  obtain ⟨h20, hr⟩ := hb
  have R := right_RP hr
  have hlen := R.len
  have hsm := R.sum
  have hcoin := R.coin
  obtain ⟨hok, hws, hs0⟩ := wts_ok R
  have cr := rates_t C b _ hl hr rfl
  have hnD : ∀ k (h : k < C.length), nth ((rts C b).map fz) k = fz (rt (b * C.length) (sumL (wts C)) (C[k] + 1)) := fun k h => by
    have : nth ((rts C b).map fz) k = fz ((rts C b)[k]'(by rw [rts_len]; exact h)) := nth_map fz (by rw [rts_len]; exact h)
    rw [this, rts_at h]
  have hDl : ((rts C b).map fz).length = C.length := by rw [List.length_map, rts_len]
  have hmem := fun i (h : i < C.length) => R.mem h
  have hcw := fun i (h : i < C.length) => R.prod (w := C[i] + 1) (by have := R.mem h; omega)
  have hps : ∀ k, k ≤ C.length → 0 ≤ sumL ((wts C).take k) ∧ sumL ((wts C).take k) ≤ 60060 := fun k hk => by
    have e : (wts C).take k = wts (C.take k) := by unfold wts; rw [List.map_take]
    have := wts_bd (C := C.take k) (List.all_eq_true.2 fun x hx => List.all_eq_true.1 R.all x (List.mem_of_mem_take hx))
    rw [e]
    have : (C.take k).length = k := by rw [List.length_take]; omega
    omega
  have hpk : ∀ k (h : k < C.length), sumL ((wts C).take (k + 1)) = sumL ((wts C).take k) + (C[k] + 1) := fun k h => by
    rw [sumL_succ (by rw [wts_len]; exact h), wts_at h]
  have hpe : sumL ((wts C).take C.length) = sumL (wts C) := by rw [List.take_of_length_le (by rw [wts_len]; omega)]
  have wc := w64 (x := b * (C.length : Int)) (by omega) (by omega)
  have cf := fun m (hm : 0 ≤ m) (h : m + b * (C.length : Int) ≤ 1099511627776) => round_t C b m _ hl hr (wts_fairE R hcoin.1 hm h) rfl
  have gl := fun n => given_len (wts C) n
  have gs := fun n h => given_sum (W := wts C) (n := n) hok hs0 h
  have gb := fun n h i (hi : i < (wts C).length) => given_bd (W := wts C) (n := n) hok hs0 h hi
  have gm := fun n m h q i (hi : i < (wts C).length) => given_mono (W := wts C) (n := n) (m := m) hok hs0 h q hi
  have gz := given_zero hs0
  have gn := fun n h i (hi : i < C.length) => given_rt R (n := n) h hi
  have fl := fun n m => fair_len n (wts C) m
  have fa := fun n m i h h1 h2 => fair_at (n := n) (W := wts C) (b := m) (i := i) h h1 h2
  rw [wts_len] at gz
  simp only [wts_len] at gl gb gm fl
  generalize hW : wts C = W at *
  generalize (rts C b).map fz = D at *
  generalize hc : b * (C.length : Int) = c at *
  generalize hS : sumL W = S at *
  have hadd := fun k (h : k < C.length) => add_rt c S (sumL (W.take k)) (C[k] + 1) hsm (by have := mul_small hcoin (hps k (by omega)); omega) (by have := hcw k h; omega)
  (repeat (first | refine awp_seq ?_ | refine awp_block ?_ | ((first | refine awp_runG [0, 1, 2, 6, 7, 8, 9, 10, 11, 12, 13, 14, 15, 16, 17, 18, 19, 20, 21, 22, 23, 33, 50, 54, 67, 75, 82, 90, 106, 109, 157, 162] hX ?_ | refine awp_drawnG [0, 1, 2, 6, 7, 8, 9, 10, 11, 12, 13, 14, 15, 16, 17, 18, 19, 20, 21, 22, 23, 33, 50, 54, 67, 75, 82, 90, 106, 109, 157, 162] hX mixed ?_ | refine awp_ret ?_ | refine awp_skip ?_ | refine awp_exit ?_); (simp [go_sem]; try (refine ⟨by kernel_rfl, ?_⟩)))))
  first | refine callK_intro (cr) rfl (by simp [go_sem]) rfl ?_ | refine callT_intro (cr) rfl (by simp [go_sem]) rfl ?_
  try (simp [go_sem]; try (refine ⟨by kernel_rfl, ?_⟩))
  (repeat (first | refine awp_seq ?_ | refine awp_block ?_ | ((first | refine awp_runG [0, 1, 2, 6, 7, 8, 9, 10, 11, 12, 13, 14, 15, 16, 17, 18, 19, 20, 21, 22, 23, 33, 50, 54, 67, 75, 82, 90, 106, 109, 157, 162] hX ?_ | refine awp_drawnG [0, 1, 2, 6, 7, 8, 9, 10, 11, 12, 13, 14, 15, 16, 17, 18, 19, 20, 21, 22, 23, 33, 50, 54, 67, 75, 82, 90, 106, 109, 157, 162] hX mixed ?_ | refine awp_ret ?_ | refine awp_skip ?_ | refine awp_exit ?_); (simp [go_sem, hDl]; try (refine ⟨by kernel_rfl, ?_⟩)))))
  refine awp_cond (b := false) (by simp [go_sem, hDl]) (fun h => by cases h) (fun _ => ?_)
  (repeat (first | refine awp_seq ?_ | refine awp_block ?_ | ((first | refine awp_runG [0, 1, 2, 6, 7, 8, 9, 10, 11, 12, 13, 14, 15, 16, 17, 18, 19, 20, 21, 22, 23, 33, 50, 54, 67, 75, 82, 90, 106, 109, 157, 162] hX ?_ | refine awp_drawnG [0, 1, 2, 6, 7, 8, 9, 10, 11, 12, 13, 14, 15, 16, 17, 18, 19, 20, 21, 22, 23, 33, 50, 54, 67, 75, 82, 90, 106, 109, 157, 162] hX mixed ?_ | refine awp_ret ?_ | refine awp_skip ?_ | refine awp_exit ?_); (simp [go_sem]; try (refine ⟨by kernel_rfl, ?_⟩)))))
  first | refine callK_intro (of_1 0 (by omega)) rfl (by simp [go_sem]) rfl ?_ | refine callT_intro (of_1 0 (by omega)) rfl (by simp [go_sem]) rfl ?_
  try (simp [go_sem]; try (refine ⟨by kernel_rfl, ?_⟩))
  (repeat (first | refine awp_seq ?_ | refine awp_block ?_ | ((first | refine awp_runG [0, 1, 2, 6, 7, 8, 9, 10, 11, 12, 13, 14, 15, 16, 17, 18, 19, 20, 21, 22, 23, 33, 50, 54, 67, 75, 82, 90, 106, 109, 157, 162] hX ?_ | refine awp_drawnG [0, 1, 2, 6, 7, 8, 9, 10, 11, 12, 13, 14, 15, 16, 17, 18, 19, 20, 21, 22, 23, 33, 50, 54, 67, 75, 82, 90, 106, 109, 157, 162] hX mixed ?_ | refine awp_ret ?_ | refine awp_skip ?_ | refine awp_exit ?_); (simp [go_sem]; try (refine ⟨by kernel_rfl, ?_⟩)))))
  refine awp_loop (fun i : Nat => ⟨mkE [(0, il C), (1, ii b), (2, .v (.int .u8 p)), (7, bb true), (8, ii C.length), (9, .sl D), (11, .el 0 4 0 0), (12, ii i)], [.row ⟨38, 4, [fz (rt c S (sumL (W.take i)))]⟩]⟩) (fun i => i ≤ C.length) (fun i => C.length - i) 0 ?_ ?_ ?_
  · have e : fz (rt c S (sumL (W.take 0))) = frZ 0 1 := by rw [List.take_zero, sumL_nil, rt_zero c S hsm.1]
    rw [e]
    refine sub_of _ [.old 0 ⟨38, 4, [frZ 0 1]⟩] (by simp [go_sem]) ?_
    simp [go_sem]
  · omega
  · intro i hi
    have wi := w64 (x := (i : Int) + 1) (by omega) (by omega)
    (repeat (first | refine awp_seq ?_ | refine awp_block ?_ | ((first | refine awp_runG [0, 1, 2, 6, 7, 8, 9, 10, 11, 12, 13, 14, 15, 16, 17, 18, 19, 20, 21, 22, 23, 33, 50, 54, 67, 75, 82, 90, 106, 109, 157, 162] hX ?_ | refine awp_drawnG [0, 1, 2, 6, 7, 8, 9, 10, 11, 12, 13, 14, 15, 16, 17, 18, 19, 20, 21, 22, 23, 33, 50, 54, 67, 75, 82, 90, 106, 109, 157, 162] hX mixed ?_ | refine awp_ret ?_ | refine awp_skip ?_ | refine awp_exit ?_); (simp [go_sem]; try (refine ⟨by kernel_rfl, ?_⟩)))))
    refine awp_cond (b := decide (i < C.length)) (by simp [go_sem]) (fun hd => ?_) (fun hd => ?_)
    · simp at hd
      have hiD : i < D.length := by omega
      have n1 := hnD i hd
      have ca := hadd i hd
      have e := hpk i hd
      rw [← e] at ca
      have hz : zoneEs [fz (rt c S (sumL (W.take i)))] = true := zone_fz [rt c S (sumL (W.take i))]
      generalize rt c S (sumL (W.take i)) = u at *
      generalize hv : rt c S (sumL (W.take (i + 1))) = v at *
      generalize rt c S (C[i] + 1) = x at *
      (repeat (first | refine awp_seq ?_ | refine awp_block ?_ | ((first | refine awp_runG [0, 1, 2, 6, 7, 8, 9, 10, 11, 12, 13, 14, 15, 16, 17, 18, 19, 20, 21, 22, 23, 33, 50, 54, 67, 75, 82, 90, 106, 109, 157, 162] hX ?_ | refine awp_skip ?_ | refine awp_exit ?_); (simp [go_sem]; try (refine ⟨by kernel_rfl, ?_⟩)))))
      refine awp_drawUG [0, 1, 2, 6, 7, 8, 9, 10, 11, 12, 13, 14, 15, 16, 17, 18, 19, 20, 21, 22, 23, 33, 50, 54, 67, 75, 82, 90, 106, 109, 157, 162] 1 hX mixed ?_; (simp [go_sem, hiD, n1]; try (refine ⟨by kernel_rfl, ?_⟩))
      refine callU_intro (ca) rfl (by simp [go_sem]) rfl ?_
      try (simp [go_sem]; try (refine ⟨by kernel_rfl, ?_⟩))
      refine ⟨⟨by kernel_rfl, by kernel_rfl⟩, ?_⟩
      (repeat (first | refine awp_seq ?_ | refine awp_block ?_ | ((first | refine awp_runG [0, 1, 2, 6, 7, 8, 9, 10, 11, 12, 13, 14, 15, 16, 17, 18, 19, 20, 21, 22, 23, 33, 50, 54, 67, 75, 82, 90, 106, 109, 157, 162] hX ?_ | refine awp_drawnG [0, 1, 2, 6, 7, 8, 9, 10, 11, 12, 13, 14, 15, 16, 17, 18, 19, 20, 21, 22, 23, 33, 50, 54, 67, 75, 82, 90, 106, 109, 157, 162] hX mixed ?_ | refine awp_ret ?_ | refine awp_skip ?_ | refine awp_exit ?_); (simp [go_sem]; try (refine ⟨by kernel_rfl, ?_⟩)))))
      refine awp_cond (b := false) (by simp [go_sem]) (fun h => by cases h) (fun _ => ?_)
      (repeat (first | refine awp_seq ?_ | refine awp_block ?_ | ((first | refine awp_runG [0, 1, 2, 6, 7, 8, 9, 10, 11, 12, 13, 14, 15, 16, 17, 18, 19, 20, 21, 22, 23, 33, 50, 54, 67, 75, 82, 90, 106, 109, 157, 162] hX ?_ | refine awp_drawnG [0, 1, 2, 6, 7, 8, 9, 10, 11, 12, 13, 14, 15, 16, 17, 18, 19, 20, 21, 22, 23, 33, 50, 54, 67, 75, 82, 90, 106, 109, 157, 162] hX mixed ?_ | refine awp_ret ?_ | refine awp_skip ?_ | refine awp_exit ?_); (simp [go_sem, wi]; try (refine ⟨by kernel_rfl, ?_⟩)))))
      refine ⟨i + 1, by omega, by omega, ?_⟩
      rw [hv]
      refine sub_of _ [.old 0 ⟨38, 4, [fz v]⟩] (by simp [go_sem]) ?_
      simp [go_sem]
    · have hil : i = C.length := by simp at hd; omega
      rw [hil, hpe]
      have cA := all_rt c S hsm hcoin
      generalize rt c S S = u at *
      (repeat (first | refine awp_seq ?_ | refine awp_block ?_ | ((first | refine awp_runG [0, 1, 2, 6, 7, 8, 9, 10, 11, 12, 13, 14, 15, 16, 17, 18, 19, 20, 21, 22, 23, 33, 50, 54, 67, 75, 82, 90, 106, 109, 157, 162] hX ?_ | refine awp_drawnG [0, 1, 2, 6, 7, 8, 9, 10, 11, 12, 13, 14, 15, 16, 17, 18, 19, 20, 21, 22, 23, 33, 50, 54, 67, 75, 82, 90, 106, 109, 157, 162] hX mixed ?_ | refine awp_ret ?_ | refine awp_skip ?_ | refine awp_exit ?_); (simp [go_sem, hc, wc]; try (refine ⟨by kernel_rfl, ?_⟩)))))
      first | refine callK_intro (of_1 c (by omega)) rfl (by simp [go_sem]) rfl ?_ | refine callT_intro (of_1 c (by omega)) rfl (by simp [go_sem]) rfl ?_
      try (simp [go_sem]; try (refine ⟨by kernel_rfl, ?_⟩))
      first | refine callK_intro (cA) rfl (by simp [go_sem]) rfl ?_ | refine callT_intro (cA) rfl (by simp [go_sem]) rfl ?_
      try (simp [go_sem]; try (refine ⟨by kernel_rfl, ?_⟩))
      refine awp_cond (b := false) (by simp [go_sem]) (fun h => by cases h) (fun _ => ?_)
      (repeat (first | refine awp_seq ?_ | refine awp_block ?_ | ((first | refine awp_runG [0, 1, 2, 6, 7, 8, 9, 10, 11, 12, 13, 14, 15, 16, 17, 18, 19, 20, 21, 22, 23, 33, 50, 54, 67, 75, 82, 90, 106, 109, 157, 162] hX ?_ | refine awp_drawnG [0, 1, 2, 6, 7, 8, 9, 10, 11, 12, 13, 14, 15, 16, 17, 18, 19, 20, 21, 22, 23, 33, 50, 54, 67, 75, 82, 90, 106, 109, 157, 162] hX mixed ?_ | refine awp_ret ?_ | refine awp_skip ?_ | refine awp_exit ?_); (simp [go_sem]; try (refine ⟨by kernel_rfl, ?_⟩)))))
      (repeat refine And.intro (by first | omega | (unfold maxLen; omega) | kernel_rfl | (refine ⟨by first | omega | (unfold maxLen; omega), by first | omega | (unfold maxLen; omega)⟩) | grind) ?_)
      (repeat (first | refine awp_seq ?_ | refine awp_block ?_ | ((first | refine awp_runG [0, 1, 2, 6, 7, 8, 9, 10, 11, 12, 13, 14, 15, 16, 17, 18, 19, 20, 21, 22, 23, 33, 50, 54, 67, 75, 82, 90, 106, 109, 157, 162] hX ?_ | refine awp_drawnG [0, 1, 2, 6, 7, 8, 9, 10, 11, 12, 13, 14, 15, 16, 17, 18, 19, 20, 21, 22, 23, 33, 50, 54, 67, 75, 82, 90, 106, 109, 157, 162] hX mixed ?_ | refine awp_ret ?_ | refine awp_skip ?_ | refine awp_exit ?_); (simp [go_sem]; try (refine ⟨by kernel_rfl, ?_⟩)))))
      have hp13 : 0 ≤ p % 13 ∧ p % 13 ≤ 12 := by omega
      have htm : p.tmod 13 = p % 13 := Int.tmod_eq_emod_of_nonneg (by omega)
      have hw8 : IntKind.u8.wrap (p % 13) = p % 13 := by unfold IntKind.wrap; simp [IntKind.bits, IntKind.signed]; omega
      have hw9 := w64 (x := p % 13) (by omega) (by omega)
      obtain ⟨Y, hY⟩ : ∃ Y : Nat, p % 13 = Y := ⟨(p % 13).toNat, by omega⟩
      rw [hY] at hp13 htm hw8 hw9
      refine awp_loop (fun y : Nat => ⟨mkE [(0, il C), (1, ii b), (2, .v (.int .u8 p)), (7, bb true), (8, ii C.length), (9, .sl D), (15, .ow 0), (16, ii ((y : Int) * c)), (17, ii ((y : Int) + 1))], [rowI (given W ((y : Int) * c))]⟩) (fun y => y ≤ Y ∧ (y : Int) * c ≤ 1099511627776) (fun y => Y - y) 0 ?_ ?_ ?_
      · have e : given W (((0 : Nat) : Int) * c) = List.replicate C.length 0 := by rw [show ((0 : Nat) : Int) * c = 0 by simp]; exact gz
        rw [e]
        refine sub_of _ [.old 1 ⟨3, 1, (List.replicate C.length (0 : Int)).map ii⟩] ?_ ?_
        · simp [go_sem, List.map_replicate]
        · simp [go_sem]
      · simp
      · rintro y ⟨hy, hyc⟩
        have hy0 : 0 ≤ (y : Int) * c := Int.mul_nonneg (by omega) hcoin.1
        have hy1 : ((y + 1 : Nat) : Int) * c = (y : Int) * c + c := by push_cast; rw [Int.add_mul, Int.one_mul]
        have wy := w64 (x := 1099511627776 - (y : Int) * c) (by omega) (by omega)
        (repeat (first | refine awp_seq ?_ | refine awp_block ?_ | ((first | refine awp_runG [0, 1, 2, 6, 7, 8, 9, 10, 11, 12, 13, 14, 15, 16, 17, 18, 19, 20, 21, 22, 23, 33, 50, 54, 67, 75, 82, 90, 106, 109, 157, 162] hX ?_ | refine awp_drawnG [0, 1, 2, 6, 7, 8, 9, 10, 11, 12, 13, 14, 15, 16, 17, 18, 19, 20, 21, 22, 23, 33, 50, 54, 67, 75, 82, 90, 106, 109, 157, 162] hX mixed ?_ | refine awp_ret ?_ | refine awp_skip ?_ | refine awp_exit ?_); (simp [go_sem, htm, hw8, hw9]; try (refine ⟨by kernel_rfl, ?_⟩)))))
        refine awp_cond (b := decide (y < Y)) (by simp [go_sem, htm, hw8, hw9]; try omega) (fun he => ?_) (fun he => ?_)
        · simp at he
          (repeat (first | refine awp_seq ?_ | refine awp_block ?_ | ((first | refine awp_runG [0, 1, 2, 6, 7, 8, 9, 10, 11, 12, 13, 14, 15, 16, 17, 18, 19, 20, 21, 22, 23, 33, 50, 54, 67, 75, 82, 90, 106, 109, 157, 162] hX ?_ | refine awp_drawnG [0, 1, 2, 6, 7, 8, 9, 10, 11, 12, 13, 14, 15, 16, 17, 18, 19, 20, 21, 22, 23, 33, 50, 54, 67, 75, 82, 90, 106, 109, 157, 162] hX mixed ?_ | refine awp_ret ?_ | refine awp_skip ?_ | refine awp_exit ?_); (simp [go_sem, hc, wc, wy]; try (refine ⟨by kernel_rfl, ?_⟩)))))
          refine awp_cond (b := decide (1099511627776 - (y : Int) * c < c)) (by simp [go_sem, hc, wc, wy]) (fun hf => ?_) (fun hf => ?_)
          · (repeat (first | refine awp_seq ?_ | refine awp_block ?_ | ((first | refine awp_runG [0, 1, 2, 6, 7, 8, 9, 10, 11, 12, 13, 14, 15, 16, 17, 18, 19, 20, 21, 22, 23, 33, 50, 54, 67, 75, 82, 90, 106, 109, 157, 162] hX ?_ | refine awp_drawnG [0, 1, 2, 6, 7, 8, 9, 10, 11, 12, 13, 14, 15, 16, 17, 18, 19, 20, 21, 22, 23, 33, 50, 54, 67, 75, 82, 90, 106, 109, 157, 162] hX mixed ?_ | refine awp_ret ?_ | refine awp_skip ?_ | refine awp_exit ?_); (simp [go_sem]; try (refine ⟨by kernel_rfl, ?_⟩)))))
          simp only [decide_eq_false_iff_not] at hf
          have cF := cf ((y : Int) * c) hy0 (by omega)
          have hF := fl c ((y : Int) * c)
          have hA := gl ((y : Int) * c + c)
          have hB := gl ((y : Int) * c)
          have hat := fa c ((y : Int) * c)
          have sA := gs ((y : Int) * c + c) (by omega)
          have sB := gs ((y : Int) * c) hy0
          have bA := gb ((y : Int) * c + c) (by omega)
          have bB := gb ((y : Int) * c) hy0
          have mo := gm ((y : Int) * c) ((y : Int) * c + c) hy0 (by omega)
          have nr := gn ((y : Int) * c + c) (by omega)
          have hmul := fun i (h : i < C.length) => mul_rt c S (C[i] + 1) ((y : Int) + 1) hsm (by have := hcw i h; omega) (by omega)
          rw [show ((y : Int) + 1) * c = (y : Int) * c + c by rw [Int.add_mul, Int.one_mul]] at hmul
          have hnear : ∀ i (h : i < C.length) (n : Int), 0 ≤ n ∧ n ≤ 1099511627776 → (n - 1) * S < ((y : Int) * c + c) * (C[i] + 1) → ((y : Int) * c + c) * (C[i] + 1) < (n + 1) * S → Means false Try.prog 19 [fz (rt ((y : Int) * c + c) S (C[i] + 1)), ii n] (bb true) := fun i h n hn h1 h2 =>
            near_rt (((y : Int) * c + c) * (C[i] + 1)) S n hsm (by have := mul_small (a := (y : Int) * c + c) (b := C[i] + 1) (A := 1099511627776) (B := 1001) (by omega) (by have := hmem i h; omega); omega) hn h1 h2
          have fsum : ∀ i, i ≤ C.length → sumL ((fair c W ((y : Int) * c)).take i) = sumL ((given W ((y : Int) * c + c)).take i) - sumL ((given W ((y : Int) * c)).take i) := fun i hi => sumL_sub' (by rw [List.length_take, List.length_take]; omega) (by rw [List.length_take, List.length_take]; omega) fun j h h1 h2 => by
            rw [List.getElem_take, List.getElem_take, List.getElem_take]
            exact hat j _ _ _
          have fsucc : ∀ i (h : i < (fair c W ((y : Int) * c)).length), sumL ((fair c W ((y : Int) * c)).take (i + 1)) = sumL ((fair c W ((y : Int) * c)).take i) + (fair c W ((y : Int) * c))[i] := fun i h => sumL_succ h
          have ftot : sumL (fair c W ((y : Int) * c)) = c := by
            have := fsum C.length (Nat.le_refl _)
            rw [List.take_of_length_le (by omega), List.take_of_length_le (by omega), List.take_of_length_le (by omega)] at this
            omega
          generalize fair c W ((y : Int) * c) = F at *
          generalize hAe : given W ((y : Int) * c + c) = A at *
          generalize given W ((y : Int) * c) = B at *
          generalize hyc2 : (y : Int) * c = z at *
          have fb : ∀ i (h : i < C.length) (h1 : i < F.length), 0 ≤ F[i] ∧ F[i] ≤ 1099511627776 := fun i h h1 => by
            have a1 := bA i h
            have a2 := bB i h
            have a3 := mo i h
            have a4 := hat i h1 (by omega) (by omega)
            rw [gt_at (L := A) (by omega)] at a1 a3
            rw [gt_at (L := B) (by omega)] at a2 a3
            omega
          have fpart : ∀ k, k ≤ C.length → 0 ≤ sumL (F.take k) ∧ sumL (F.take k) ≤ 20 * 1099511627776 := fun k hk => by
            have := left_m' (q := F) (B := 1099511627776) (fun x hx => by
              obtain ⟨i, hi, rfl⟩ := List.getElem_of_mem hx
              exact fb i (by omega) hi) (by omega) k
            have h20' : (k : Int) * 1099511627776 ≤ 20 * 1099511627776 := Int.mul_le_mul_of_nonneg_right (by omega) (by omega)
            have : ((F.take k).length : Int) = k := by rw [List.length_take]; omega
            omega
          have hAB : A.length = B.length := by omega
          have mz := mix_zero A B
          have mf := mix_full hAB
          (repeat (first | refine awp_seq ?_ | refine awp_block ?_ | ((first | refine awp_runG [0, 1, 2, 6, 7, 8, 9, 10, 11, 12, 13, 14, 15, 16, 17, 18, 19, 20, 21, 22, 23, 33, 50, 54, 67, 75, 82, 90, 106, 109, 157, 162] hX ?_ | refine awp_drawnG [0, 1, 2, 6, 7, 8, 9, 10, 11, 12, 13, 14, 15, 16, 17, 18, 19, 20, 21, 22, 23, 33, 50, 54, 67, 75, 82, 90, 106, 109, 157, 162] hX mixed ?_ | refine awp_ret ?_ | refine awp_skip ?_ | refine awp_exit ?_); (simp [go_sem]; try (refine ⟨by kernel_rfl, ?_⟩)))))
          first | refine callK_intro (cF) rfl (by simp [go_sem]) rfl ?_ | refine callT_intro (cF) rfl (by simp [go_sem]) rfl ?_
          try (simp [go_sem]; try (refine ⟨by kernel_rfl, ?_⟩))
          (repeat (first | refine awp_seq ?_ | refine awp_block ?_ | ((first | refine awp_runG [0, 1, 2, 6, 7, 8, 9, 10, 11, 12, 13, 14, 15, 16, 17, 18, 19, 20, 21, 22, 23, 33, 50, 54, 67, 75, 82, 90, 106, 109, 157, 162] hX ?_ | refine awp_drawnG [0, 1, 2, 6, 7, 8, 9, 10, 11, 12, 13, 14, 15, 16, 17, 18, 19, 20, 21, 22, 23, 33, 50, 54, 67, 75, 82, 90, 106, 109, 157, 162] hX mixed ?_ | refine awp_ret ?_ | refine awp_skip ?_ | refine awp_exit ?_); (simp [go_sem, hF]; try (refine ⟨by kernel_rfl, ?_⟩)))))
          refine awp_cond (b := false) (by simp [go_sem, hF]) (fun h => by cases h) (fun _ => ?_)
          (repeat (first | refine awp_seq ?_ | refine awp_block ?_ | ((first | refine awp_runG [0, 1, 2, 6, 7, 8, 9, 10, 11, 12, 13, 14, 15, 16, 17, 18, 19, 20, 21, 22, 23, 33, 50, 54, 67, 75, 82, 90, 106, 109, 157, 162] hX ?_ | refine awp_drawnG [0, 1, 2, 6, 7, 8, 9, 10, 11, 12, 13, 14, 15, 16, 17, 18, 19, 20, 21, 22, 23, 33, 50, 54, 67, 75, 82, 90, 106, 109, 157, 162] hX mixed ?_ | refine awp_ret ?_ | refine awp_skip ?_ | refine awp_exit ?_); (simp [go_sem]; try (refine ⟨by kernel_rfl, ?_⟩)))))
          refine awp_loop (fun i : Nat => ⟨mkE [(0, il C), (1, ii b), (2, .v (.int .u8 p)), (7, bb true), (8, ii C.length), (9, .sl D), (15, .ow 0), (16, ii z), (17, ii ((y : Int) + 1)), (18, il F), (20, ii (sumL (F.take i))), (21, ii i)], [rowI (mixL A B i)]⟩) (fun i => i ≤ C.length) (fun i => C.length - i) 0 ?_ ?_ ?_
          · rw [mz]
            refine sub_of _ [.old 0 ⟨3, 1, B.map ii⟩] (by simp [go_sem]) ?_
            simp [go_sem]
          · omega
          · intro i hi
            have wi := w64 (x := (i : Int) + 1) (by omega) (by omega)
            have ml := mix_len hAB (k := i) (by omega)
            (repeat (first | refine awp_seq ?_ | refine awp_block ?_ | ((first | refine awp_runG [0, 1, 2, 6, 7, 8, 9, 10, 11, 12, 13, 14, 15, 16, 17, 18, 19, 20, 21, 22, 23, 33, 50, 54, 67, 75, 82, 90, 106, 109, 157, 162] hX ?_ | refine awp_drawnG [0, 1, 2, 6, 7, 8, 9, 10, 11, 12, 13, 14, 15, 16, 17, 18, 19, 20, 21, 22, 23, 33, 50, 54, 67, 75, 82, 90, 106, 109, 157, 162] hX mixed ?_ | refine awp_ret ?_ | refine awp_skip ?_ | refine awp_exit ?_); (simp [go_sem]; try (refine ⟨by kernel_rfl, ?_⟩)))))
            refine awp_cond (b := decide (i < C.length)) (by simp [go_sem]) (fun hg => ?_) (fun hg => ?_)
            · simp at hg
              have hiF : i < F.length := by omega
              have hiD : i < D.length := by omega
              have n1 := hnD i hg
              have ms := mix_set hAB (k := i) (by omega)
              have him : i < (mixL A B i).length := by omega
              have ma := mix_at hAB (k := i) (by omega) him
              have q1 := fb i hg hiF
              have q2 := bB i hg
              have q3 := hat i hiF (by omega) (by omega)
              have q4 := bA i hg
              have q5 := nr i hg
              have cm := hmul i hg
              have cn := hnear i hg
              have fs := fsucc i hiF
              have fp := fpart i (by omega)
              rw [gt_at (L := A) (by omega)] at q4 q5
              rw [gt_at (L := B) (by omega)] at q2
              obtain ⟨bv, hbv⟩ : ∃ bv, B[i]'(by omega) = bv := ⟨_, rfl⟩
              obtain ⟨av, hav⟩ : ∃ av, A[i]'(by omega) = av := ⟨_, rfl⟩
              obtain ⟨f, hf⟩ : ∃ f, F[i] = f := ⟨_, rfl⟩
              rw [hbv] at ma q2 q3
              rw [hav] at ms q3 q4 q5
              rw [hf] at q1 q3 fs
              have cnn := cn av ⟨q4.1, by omega⟩ q5.1 q5.2
              have e : bv + f = av := by omega
              have w1 := w64 (x := bv + f) (by omega) (by omega)
              have w2 := w64 (x := sumL (F.take i) + f) (by omega) (by omega)
              have w3 := w64 (x := (y : Int) + 1) (by omega) (by omega)
              rw [e] at w1
              have hfn : ¬ f < 0 := by omega
              clear hbv hav hat ml cn mf mz
              generalize hR : mixL A B i = M at *
              generalize rt (z + c) S (C[i] + 1) = u at *
              generalize rt c S (C[i] + 1) = v at *
              have hns := nth_set_ii' (v := av) him
              (repeat (first | refine awp_seq ?_ | refine awp_block ?_ | ((first | refine awp_runG [0, 1, 2, 6, 7, 8, 9, 10, 11, 12, 13, 14, 15, 16, 17, 18, 19, 20, 21, 22, 23, 33, 50, 54, 67, 75, 82, 90, 106, 109, 157, 162] hX ?_ | refine awp_skip ?_ | refine awp_exit ?_); (simp [go_sem]; try (refine ⟨by kernel_rfl, ?_⟩)))))
              ((first | refine awp_runG [0, 1, 2, 6, 7, 8, 9, 10, 11, 12, 13, 14, 15, 16, 17, 18, 19, 20, 21, 22, 23, 33, 50, 54, 67, 75, 82, 90, 106, 109, 157, 162] hX ?_ | refine awp_drawnG [0, 1, 2, 6, 7, 8, 9, 10, 11, 12, 13, 14, 15, 16, 17, 18, 19, 20, 21, 22, 23, 33, 50, 54, 67, 75, 82, 90, 106, 109, 157, 162] hX mixed ?_ | refine awp_ret ?_ | refine awp_skip ?_ | refine awp_exit ?_); (simp [go_sem, him, ma, hiF, hf, e, w1]; try (refine ⟨by kernel_rfl, ?_⟩)))
              try (repeat refine And.intro (by first | omega | (unfold maxLen; omega) | kernel_rfl | (refine ⟨by first | omega | (unfold maxLen; omega), by first | omega | (unfold maxLen; omega)⟩) | grind) ?_)
              (repeat (first | refine awp_seq ?_ | refine awp_block ?_ | ((first | refine awp_runG [0, 1, 2, 6, 7, 8, 9, 10, 11, 12, 13, 14, 15, 16, 17, 18, 19, 20, 21, 22, 23, 33, 50, 54, 67, 75, 82, 90, 106, 109, 157, 162] hX ?_ | refine awp_skip ?_ | refine awp_exit ?_); (simp [go_sem, hiF, hf, w2]; try (refine ⟨by kernel_rfl, ?_⟩)))))
              refine awp_drawUG [0, 1, 2, 6, 7, 8, 9, 10, 11, 12, 13, 14, 15, 16, 17, 18, 19, 20, 21, 22, 23, 33, 50, 54, 67, 75, 82, 90, 106, 109, 157, 162] 1 hX mixed ?_; (simp [go_sem, hiD, n1]; try (refine ⟨by kernel_rfl, ?_⟩))
              refine callU_intro (of_1 ((y : Int) + 1) (by omega)) rfl (by simp [go_sem]) rfl ?_
              try (simp [go_sem]; try (refine ⟨by kernel_rfl, ?_⟩))
              refine callU_intro (cm) rfl (by simp [go_sem]) rfl ?_
              try (simp [go_sem]; try (refine ⟨by kernel_rfl, ?_⟩))
              refine ⟨⟨by kernel_rfl, by kernel_rfl⟩, ?_⟩
              have him2 : i < (M.map ii).length := by simp; omega
              (repeat (first | refine awp_seq ?_ | refine awp_block ?_ | ((first | refine awp_runG [0, 1, 2, 6, 7, 8, 9, 10, 11, 12, 13, 14, 15, 16, 17, 18, 19, 20, 21, 22, 23, 33, 50, 54, 67, 75, 82, 90, 106, 109, 157, 162] hX ?_ | refine awp_drawnG [0, 1, 2, 6, 7, 8, 9, 10, 11, 12, 13, 14, 15, 16, 17, 18, 19, 20, 21, 22, 23, 33, 50, 54, 67, 75, 82, 90, 106, 109, 157, 162] hX mixed ?_ | refine awp_ret ?_ | refine awp_skip ?_ | refine awp_exit ?_); (simp [go_sem, hiF, hf, him, hns, hfn]; try (refine ⟨by kernel_rfl, ?_⟩)))))
              first | refine callG_intro (fun hg => cnn) rfl (by simp [go_sem]) rfl ?_ | refine callGT_intro (fun hg => cnn) rfl (by simp [go_sem]) rfl ?_
              try (simp [go_sem, hfn]; try (refine ⟨by kernel_rfl, ?_⟩))
              try (repeat refine And.intro (by first | omega | (unfold maxLen; omega) | kernel_rfl | (refine ⟨by first | omega | (unfold maxLen; omega), by first | omega | (unfold maxLen; omega)⟩) | grind) ?_)
              refine awp_cond (b := false) (by simp [go_sem, hfn]) (fun h => by cases h) (fun _ => ?_)
              (repeat (first | refine awp_seq ?_ | refine awp_block ?_ | ((first | refine awp_runG [0, 1, 2, 6, 7, 8, 9, 10, 11, 12, 13, 14, 15, 16, 17, 18, 19, 20, 21, 22, 23, 33, 50, 54, 67, 75, 82, 90, 106, 109, 157, 162] hX ?_ | refine awp_drawnG [0, 1, 2, 6, 7, 8, 9, 10, 11, 12, 13, 14, 15, 16, 17, 18, 19, 20, 21, 22, 23, 33, 50, 54, 67, 75, 82, 90, 106, 109, 157, 162] hX mixed ?_ | refine awp_ret ?_ | refine awp_skip ?_ | refine awp_exit ?_); (simp [go_sem, wi]; try (refine ⟨by kernel_rfl, ?_⟩)))))
              refine ⟨i + 1, by omega, by omega, ?_⟩
              rw [fs, ← ms]
              refine sub_of _ [.old 0 ⟨3, 1, (M.set i av).map ii⟩] (by simp [go_sem]) ?_
              simp [go_sem]
            · have hil2 : i = A.length := by simp at hg; omega
              have e3 : F.take i = F := List.take_of_length_le (by omega)
              have e4 : mixL A B i = A := by rw [hil2]; exact mf
              rw [e3, e4, ftot]
              have w5 := w64 (x := z + c) (by omega) (by omega)
              have w6 := w64 (x := (y : Int) + 1 + 1) (by omega) (by omega)
              (repeat (first | refine awp_seq ?_ | refine awp_block ?_ | ((first | refine awp_runG [0, 1, 2, 6, 7, 8, 9, 10, 11, 12, 13, 14, 15, 16, 17, 18, 19, 20, 21, 22, 23, 33, 50, 54, 67, 75, 82, 90, 106, 109, 157, 162] hX ?_ | refine awp_drawnG [0, 1, 2, 6, 7, 8, 9, 10, 11, 12, 13, 14, 15, 16, 17, 18, 19, 20, 21, 22, 23, 33, 50, 54, 67, 75, 82, 90, 106, 109, 157, 162] hX mixed ?_ | refine awp_ret ?_ | refine awp_skip ?_ | refine awp_exit ?_); (simp [go_sem, hc, wc]; try (refine ⟨by kernel_rfl, ?_⟩)))))
              refine awp_cond (b := false) (by simp [go_sem, hc, wc]) (fun h => by cases h) (fun _ => ?_)
              (repeat (first | refine awp_seq ?_ | refine awp_block ?_ | ((first | refine awp_runG [0, 1, 2, 6, 7, 8, 9, 10, 11, 12, 13, 14, 15, 16, 17, 18, 19, 20, 21, 22, 23, 33, 50, 54, 67, 75, 82, 90, 106, 109, 157, 162] hX ?_ | refine awp_drawnG [0, 1, 2, 6, 7, 8, 9, 10, 11, 12, 13, 14, 15, 16, 17, 18, 19, 20, 21, 22, 23, 33, 50, 54, 67, 75, 82, 90, 106, 109, 157, 162] hX mixed ?_ | refine awp_ret ?_ | refine awp_skip ?_ | refine awp_exit ?_); (simp [go_sem, w5, w6]; try (refine ⟨by kernel_rfl, ?_⟩)))))
              refine ⟨y + 1, ⟨by omega, by omega⟩, by omega, ?_⟩
              rw [hy1, hAe]
              refine sub_of _ [.old 0 ⟨3, 1, A.map ii⟩] (by simp [go_sem]) ?_
              simp [go_sem]
        · (repeat (first | refine awp_seq ?_ | refine awp_block ?_ | ((first | refine awp_runG [0, 1, 2, 6, 7, 8, 9, 10, 11, 12, 13, 14, 15, 16, 17, 18, 19, 20, 21, 22, 23, 33, 50, 54, 67, 75, 82, 90, 106, 109, 157, 162] hX ?_ | refine awp_drawnG [0, 1, 2, 6, 7, 8, 9, 10, 11, 12, 13, 14, 15, 16, 17, 18, 19, 20, 21, 22, 23, 33, 50, 54, 67, 75, 82, 90, 106, 109, 157, 162] hX mixed ?_ | refine awp_ret ?_ | refine awp_skip ?_ | refine awp_exit ?_); (simp [go_sem]; try (refine ⟨by kernel_rfl, ?_⟩)))))

end Go.Proofs.Ytlcmmaokfbjojaa
