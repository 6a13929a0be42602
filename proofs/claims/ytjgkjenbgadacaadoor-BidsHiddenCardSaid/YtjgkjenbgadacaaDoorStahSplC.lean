/-
  Sorting places: the stable sort.
-/
import Derived.Test.YtjgkjenbgadacaaDoorStagSplC
set_option linter.all false
namespace Go.Proofs.YtjgkjenbgadacaaDoor
open Go.RowKit Go.Ab
attribute [local irreducible] AWP Go.Ab.Sub Means MeansH CallK CallG CallT CallGT CallU

/-- A merging in the whole row. -/
theorem mergeAt (R : List Int) (hR : R.length ≤ 100000) (hok : okR R) {l : List Int} (hlt : allLt l) (hr : ∀ x ∈ l, 0 ≤ x ∧ x < R.length) (hl : l.length ≤ 1000) {s a m b : Nat} (hs : 0 < s) (hm : a + s = m) (h1 : m < l.length) (hb : b = min (m + s) l.length) :
    MeansH Tryd.prog 75 (sH (half (kf R) s l a) R) [.ow 0, ii a, ii m, ii b, clo] (.tup [])
      (sH (r3 (bsort (kf R) (2 * s) (l.take a)) (srt (kf R) (srt (kf R) ((l.drop a).take s) ++ srt (kf R) ((l.drop (a + s)).take s))) (bsort (kf R) s (l.drop (a + s + s)))) R) := by
  have lA : ((l.drop a).take s).length = s := by simp; omega
  have lB : ((l.drop (a + s)).take s).length = b - m := by simp; omega
  have lQ : (bsort (kf R) (2 * s) (l.take a)).length = a := by rw [bsort_len _ (by omega) _ _ (Nat.le_refl _)]; simp; omega
  have lT : (bsort (kf R) s (l.drop (a + s + s))).length = l.length - (a + s + s) := by rw [bsort_len _ (by omega) _ _ (Nat.le_refl _)]; simp
  have mA : ∀ x, x ∈ srt (kf R) ((l.drop a).take s) → x ∈ (l.drop a).take s := fun x hx => (srt_perm _ _).mem_iff.1 hx
  have mB : ∀ x, x ∈ srt (kf R) ((l.drop (a + s)).take s) → x ∈ (l.drop (a + s)).take s := fun x hx => (srt_perm _ _).mem_iff.1 hx
  have h := sym_m R hR hok (s + s) (bsort (kf R) (2 * s) (l.take a)) (srt (kf R) ((l.drop a).take s)) (srt (kf R) ((l.drop (a + s)).take s)) (bsort (kf R) s (l.drop (a + s + s)))
    (by rw [srt_len, srt_len, lA, lB]; omega) (by rw [srt_len, lA]; omega) (by rw [srt_len, lB]; omega) (srt_sorted (lt_nodup (lt_take (lt_drop hlt a) s))) (srt_sorted (lt_nodup (lt_take (lt_drop hlt (a + s)) s)))
    (fun x hx y hy => lt_split (lt_drop hlt a) s x (mA x hx) y (by rw [List.drop_drop]; exact List.mem_of_mem_take (mB y hy)))
    (fun x hx => hr x (List.mem_of_mem_drop (List.mem_of_mem_take (mA x hx)))) (fun x hx => hr x (List.mem_of_mem_drop (List.mem_of_mem_take (mB x hx))))
    (by rw [lQ, lT, srt_len, srt_len, lA, lB]; omega)
  rw [lQ, srt_len, srt_len, lA, lB, ← half_cut hs, hm, show m + (b - m) = b by omega] at h
  rw [hm]
  exact h

/-- A sorting in the whole row. -/
theorem insAt (R : List Int) (hR : R.length ≤ 100000) (hok : okR R) {l : List Int} (hlt : allLt l) (hr : ∀ x ∈ l, 0 ≤ x ∧ x < R.length) (hl : l.length ≤ 1000) (t : Nat) {c b : Nat} (hc : c ≤ 20) (h : t * 20 + c = b) (hb : b ≤ l.length) :
    MeansH Tryd.prog 74 (sH (twen (kf R) l (t * 20)) R) [.ow 0, ii (t * 20 : Nat), ii b, clo] (.tup []) (sH (twen (kf R) l b) R) := by
  have lM : ((l.drop (t * 20)).take c).length = c := by simp; omega
  have lQ : (bsort (kf R) 20 (l.take (t * 20))).length = t * 20 := by rw [bsort_len _ (by omega) _ _ (Nat.le_refl _)]; simp; omega
  have hM := lt_take (lt_drop hlt (t * 20)) c
  have h1 := insSort_m (bsort (kf R) 20 (l.take (t * 20))) ((l.drop (t * 20)).take c) (l.drop (t * 20 + c)) R (lt_nodup hM) (fun i j hi hj hij => List.pairwise_iff_getElem.1 hM i j hi hj hij)
    (fun x hx => hr x (List.mem_of_mem_drop (List.mem_of_mem_take hx))) (by rw [lQ, lM, List.length_drop]; omega) hR hok
  rw [← twen_cut, twen_step _ t c hc (by omega), lQ, lM, h] at h1
  exact h1

set_option maxHeartbeats 8000000 in
set_option maxRecDepth 20000 in
theorem stableG_m (l R : List Int) (hlt : allLt l) (hr : ∀ x ∈ l, 0 ≤ x ∧ x < R.length) (hl : l.length ≤ 1000) (hR : R.length ≤ 100000) (hok : okR R) :
    MeansH Tryd.prog 60 (sH l R) [.ow 0, ii l.length, clo] (.tup []) (sH (srt (kf R) l) R) := by
  have hnd := lt_nodup hlt
  obtain ⟨n, hn⟩ : ∃ n, l.length = n := ⟨_, rfl⟩
  rw [hn]
  refine meansH_fn 3 63 [] Tryd.func60 rfl rfl rfl (by simp) (by decide) rfl fun X hX => ?_
  (repeat (first | refine awp_seq ?_ | refine awp_block ?_ | ((first | refine awp_runG [0, 1, 2, 6, 7, 8, 9, 13, 30, 35, 54, 1000000, 1000001, 1000002] hX ?_ | refine awp_drawnG [0, 1, 2, 6, 7, 8, 9, 13, 30, 35, 54, 1000000, 1000001, 1000002] hX mixed ?_ | refine awp_skip ?_ | refine awp_exit ?_); (simp [go_sem]; (try simp (disch := omega) only [w64, td, tm]); try (refine ⟨by kernel_rfl, ?_⟩)))))
  refine awp_loop (fun t : Nat => ⟨mkE [(0, .ow 0), (1, ii n), (2, clo), (6, ii 20), (7, ii (t * 20 : Nat)), (8, ii (t * 20 + 20 : Nat)), (1000000, .ow 0), (1000001, .ow 1), (1000002, .ow 2)], sH (twen (kf R) l (t * 20)) R⟩) (fun t => t * 20 ≤ n) (fun t => n - t * 20) 0 ?_ ?_ ?_
  · rw [Nat.zero_mul, twen_zero]
    refine sub_of _ [.old 0 ⟨3, 1, l.map ii⟩, .old 1 ⟨25, 1, [.ow 2]⟩, .old 2 ⟨3, 1, R.map ii⟩] (by simp [go_sem]) ?_
    simp [go_sem]
  · omega
  · intro t ht
    obtain ⟨a, ha⟩ : ∃ a, t * 20 = a := ⟨_, rfl⟩
    obtain ⟨b, hb⟩ : ∃ b, a + 20 = b := ⟨_, rfl⟩
    have ht1 : (t + 1) * 20 = b := by omega
    rw [ha] at ht
    rw [ha, hb]
    (repeat (first | refine awp_seq ?_ | refine awp_block ?_ | ((first | refine awp_runG [0, 1, 2, 6, 7, 8, 9, 13, 30, 35, 54, 1000000, 1000001, 1000002] hX ?_ | refine awp_drawnG [0, 1, 2, 6, 7, 8, 9, 13, 30, 35, 54, 1000000, 1000001, 1000002] hX mixed ?_ | refine awp_skip ?_ | refine awp_exit ?_); (simp [go_sem]; try (refine ⟨by kernel_rfl, ?_⟩)))))
    refine awp_cond (b := decide (b ≤ n)) (by simp [go_sem]; try omega) (fun hc => ?_) (fun hc => ?_)
    · simp at hc
      have hi := insAt R hR hok hlt hr hl t (c := 20) (b := b) (by omega) (by omega) (by omega)
      rw [ha] at hi
      (repeat (first | refine awp_seq ?_ | refine awp_block ?_ | ((first | refine awp_runG [0, 1, 2, 6, 7, 8, 9, 13, 30, 35, 54, 1000000, 1000001, 1000002] hX ?_ | refine awp_drawnG [0, 1, 2, 6, 7, 8, 9, 13, 30, 35, 54, 1000000, 1000001, 1000002] hX mixed ?_ | refine awp_skip ?_ | refine awp_exit ?_); (simp [go_sem]; try (refine ⟨by kernel_rfl, ?_⟩)))))
      first | refine callH_intro [0, 1, 2] (hi) (by simp [go_sem]) ?_ | refine callTQ_intro [0, 1, 2] (hi) (by simp [go_sem]) ?_ | refine callTE_intro [0, 1, 2] (hi) (by simp [go_sem]) ?_
      try (simp [go_sem]; try (refine ⟨by kernel_rfl, ?_⟩))
      (repeat (first | refine awp_seq ?_ | refine awp_block ?_ | ((first | refine awp_runG [0, 1, 2, 6, 7, 8, 9, 13, 30, 35, 54, 1000000, 1000001, 1000002] hX ?_ | refine awp_drawnG [0, 1, 2, 6, 7, 8, 9, 13, 30, 35, 54, 1000000, 1000001, 1000002] hX mixed ?_ | refine awp_skip ?_ | refine awp_exit ?_); (simp [go_sem]; (try simp (disch := omega) only [w64, td, tm]); try (refine ⟨by kernel_rfl, ?_⟩)))))
      refine ⟨t + 1, by omega, by omega, ?_⟩
      rw [ht1]
      refine sub_of _ [.old 0 ⟨3, 1, (twen (kf R) l b).map ii⟩, .old 1 ⟨25, 1, [.ow 2]⟩, .old 2 ⟨3, 1, R.map ii⟩] (by simp [go_sem]) ?_
      simp [go_sem]
      try omega
    · simp at hc
      have hi := insAt R hR hok hlt hr hl t (c := n - a) (b := n) (by omega) (by omega) (by omega)
      have hfu := twen_full (kf R) l (a := n) (by omega)
      rw [ha, hfu] at hi
      (repeat (first | refine awp_seq ?_ | refine awp_block ?_ | ((first | refine awp_runG [0, 1, 2, 6, 7, 8, 9, 13, 30, 35, 54, 1000000, 1000001, 1000002] hX ?_ | refine awp_drawnG [0, 1, 2, 6, 7, 8, 9, 13, 30, 35, 54, 1000000, 1000001, 1000002] hX mixed ?_ | refine awp_skip ?_ | refine awp_exit ?_); (simp [go_sem]; try (refine ⟨by kernel_rfl, ?_⟩)))))
      first | refine callH_intro [0, 1, 2] (hi) (by simp [go_sem]) ?_ | refine callTQ_intro [0, 1, 2] (hi) (by simp [go_sem]) ?_ | refine callTE_intro [0, 1, 2] (hi) (by simp [go_sem]) ?_
      try (simp [go_sem]; try (refine ⟨by kernel_rfl, ?_⟩))
      (repeat (first | refine awp_seq ?_ | refine awp_block ?_ | ((first | refine awp_runG [0, 1, 2, 6, 7, 8, 9, 13, 30, 35, 54, 1000000, 1000001, 1000002] hX ?_ | refine awp_drawnG [0, 1, 2, 6, 7, 8, 9, 13, 30, 35, 54, 1000000, 1000001, 1000002] hX mixed ?_ | refine awp_skip ?_ | refine awp_exit ?_); (simp [go_sem]; try (refine ⟨by kernel_rfl, ?_⟩)))))
      refine awp_loop (fun s : Nat => ⟨mkE [(0, .ow 0), (1, ii n), (2, clo), (6, ii s), (1000000, .ow 0), (1000001, .ow 1), (1000002, .ow 2)], sH (bsort (kf R) s l) R⟩) (fun s => 0 < s ∧ s ≤ 2 * n + 20) (fun s => n - s) 20 ?_ ?_ ?_
      · refine sub_of _ [.old 0 ⟨3, 1, (bsort (kf R) 20 l).map ii⟩, .old 1 ⟨25, 1, [.ow 2]⟩, .old 2 ⟨3, 1, R.map ii⟩] (by simp [go_sem]) ?_
        simp [go_sem]
      · omega
      · rintro s ⟨hs0, hs1⟩
        (repeat (first | refine awp_seq ?_ | refine awp_block ?_ | ((first | refine awp_runG [0, 1, 2, 6, 7, 8, 9, 13, 30, 35, 54, 1000000, 1000001, 1000002] hX ?_ | refine awp_drawnG [0, 1, 2, 6, 7, 8, 9, 13, 30, 35, 54, 1000000, 1000001, 1000002] hX mixed ?_ | refine awp_skip ?_ | refine awp_exit ?_); (simp [go_sem]; try (refine ⟨by kernel_rfl, ?_⟩)))))
        refine awp_cond (b := decide (s < n)) (by simp [go_sem]; try omega) (fun hd => ?_) (fun hd => ?_)
        · simp at hd
          have hw2 := w64 (x := 2 * (s : Int)) (by omega) (by omega)
          have hw3 := w64 (x := (s : Int) * 2) (by omega) (by omega)
          (repeat (first | refine awp_seq ?_ | refine awp_block ?_ | ((first | refine awp_runG [0, 1, 2, 6, 7, 8, 9, 13, 30, 35, 54, 1000000, 1000001, 1000002] hX ?_ | refine awp_drawnG [0, 1, 2, 6, 7, 8, 9, 13, 30, 35, 54, 1000000, 1000001, 1000002] hX mixed ?_ | refine awp_skip ?_ | refine awp_exit ?_); (simp [go_sem, hw2]; try (refine ⟨by kernel_rfl, ?_⟩)))))
          refine awp_loop (fun z : Nat × Nat => ⟨mkE [(0, .ow 0), (1, ii n), (2, clo), (6, ii s), (7, ii z.2), (8, ii (z.2 + 2 * s : Nat)), (1000000, .ow 0), (1000001, .ow 1), (1000002, .ow 2)], sH (half (kf R) s l z.2) R⟩) (fun z => z.2 = z.1 * (2 * s) ∧ z.2 ≤ n) (fun z => n - z.2) (0, 0) ?_ ?_ ?_
          · simp only [half_zero]
            refine sub_of _ [.old 0 ⟨3, 1, (bsort (kf R) s l).map ii⟩, .old 1 ⟨25, 1, [.ow 2]⟩, .old 2 ⟨3, 1, R.map ii⟩] (by simp [go_sem]) ?_
            simp [go_sem]
          · simp
          · rintro ⟨t, a⟩ ⟨hta, han⟩
            simp only [] at hta han
            obtain ⟨b, hb⟩ : ∃ b, a + 2 * s = b := ⟨_, rfl⟩
            obtain ⟨m, hm⟩ : ∃ m, a + s = m := ⟨_, rfl⟩
            have hma : (a : Int) + s = m := by omega
            have hwm := w64 (x := (m : Int)) (by omega) (by omega)
            have ht1 : (t + 1) * (2 * s) = b := by rw [Nat.add_mul, Nat.one_mul, ← hta]; exact hb
            simp only [hb]
            (repeat (first | refine awp_seq ?_ | refine awp_block ?_ | ((first | refine awp_runG [0, 1, 2, 6, 7, 8, 9, 13, 30, 35, 54, 1000000, 1000001, 1000002] hX ?_ | refine awp_drawnG [0, 1, 2, 6, 7, 8, 9, 13, 30, 35, 54, 1000000, 1000001, 1000002] hX mixed ?_ | refine awp_skip ?_ | refine awp_exit ?_); (simp [go_sem]; try (refine ⟨by kernel_rfl, ?_⟩)))))
            refine awp_cond (b := decide (b ≤ n)) (by simp [go_sem]; try omega) (fun he => ?_) (fun he => ?_)
            · simp at he
              have hme := mergeAt R hR hok hlt hr hl (s := s) (a := a) (m := m) (b := b) hs0 hm (by omega) (by omega)
              have hst := half_step (K := kf R) hs0 hnd t (by rw [← hta]; omega)
              rw [← hta] at hst
              rw [hst, hb] at hme
              have hwb := w64 (x := (b : Int) + 2 * s) (by omega) (by omega)
              (repeat (first | refine awp_seq ?_ | refine awp_block ?_ | ((first | refine awp_runG [0, 1, 2, 6, 7, 8, 9, 13, 30, 35, 54, 1000000, 1000001, 1000002] hX ?_ | refine awp_drawnG [0, 1, 2, 6, 7, 8, 9, 13, 30, 35, 54, 1000000, 1000001, 1000002] hX mixed ?_ | refine awp_skip ?_ | refine awp_exit ?_); (simp [go_sem, hma, hwm]; try (refine ⟨by kernel_rfl, ?_⟩)))))
              first | refine callH_intro [0, 1, 2] (hme) (by simp [go_sem]) ?_ | refine callTQ_intro [0, 1, 2] (hme) (by simp [go_sem]) ?_ | refine callTE_intro [0, 1, 2] (hme) (by simp [go_sem]) ?_
              try (simp [go_sem, hw2, hwb]; try (refine ⟨by kernel_rfl, ?_⟩))
              (repeat (first | refine awp_seq ?_ | refine awp_block ?_ | ((first | refine awp_runG [0, 1, 2, 6, 7, 8, 9, 13, 30, 35, 54, 1000000, 1000001, 1000002] hX ?_ | refine awp_drawnG [0, 1, 2, 6, 7, 8, 9, 13, 30, 35, 54, 1000000, 1000001, 1000002] hX mixed ?_ | refine awp_skip ?_ | refine awp_exit ?_); (simp [go_sem, hw2, hwb]; try (refine ⟨by kernel_rfl, ?_⟩)))))
              refine ⟨t + 1, b, ⟨ht1.symm, he⟩, by omega, ?_⟩
              refine sub_of _ [.old 0 ⟨3, 1, (half (kf R) s l b).map ii⟩, .old 1 ⟨25, 1, [.ow 2]⟩, .old 2 ⟨3, 1, R.map ii⟩] (by simp [go_sem]) ?_
              simp [go_sem]
            · simp at he
              (repeat (first | refine awp_seq ?_ | refine awp_block ?_ | ((first | refine awp_runG [0, 1, 2, 6, 7, 8, 9, 13, 30, 35, 54, 1000000, 1000001, 1000002] hX ?_ | refine awp_drawnG [0, 1, 2, 6, 7, 8, 9, 13, 30, 35, 54, 1000000, 1000001, 1000002] hX mixed ?_ | refine awp_skip ?_ | refine awp_exit ?_); (simp [go_sem, hma, hwm]; try (refine ⟨by kernel_rfl, ?_⟩)))))
              refine awp_cut ⟨mkE [(0, .ow 0), (1, ii n), (2, clo), (6, ii s), (1000000, .ow 0), (1000001, .ow 1), (1000002, .ow 2)], sH (bsort (kf R) (2 * s) l) R⟩ ?_ ?_
              · refine awp_cond (b := decide (m < n)) (by simp [go_sem]; try omega) (fun hf => ?_) (fun hf => ?_)
                · simp at hf
                  have hme := mergeAt R hR hok hlt hr hl (s := s) (a := a) (m := m) (b := n) hs0 hm (by omega) (by omega)
                  have hst := half_last (K := kf R) hs0 hnd t (by rw [← hta]; omega) (by rw [← hta]; omega)
                  rw [← hta] at hst
                  rw [hst] at hme
                  (repeat (first | refine awp_seq ?_ | refine awp_block ?_ | ((first | refine awp_runG [0, 1, 2, 6, 7, 8, 9, 13, 30, 35, 54, 1000000, 1000001, 1000002] hX ?_ | refine awp_drawnG [0, 1, 2, 6, 7, 8, 9, 13, 30, 35, 54, 1000000, 1000001, 1000002] hX mixed ?_ | refine awp_skip ?_ | refine awp_exit ?_); (simp [go_sem]; try (refine ⟨by kernel_rfl, ?_⟩)))))
                  first | refine callH_intro [0, 1, 2] (hme) (by simp [go_sem]) ?_ | refine callTQ_intro [0, 1, 2] (hme) (by simp [go_sem]) ?_ | refine callTE_intro [0, 1, 2] (hme) (by simp [go_sem]) ?_
                  try (simp [go_sem]; try (refine ⟨by kernel_rfl, ?_⟩))
                  refine sub_of _ [.old 0 ⟨3, 1, (bsort (kf R) (2 * s) l).map ii⟩, .old 1 ⟨25, 1, [.ow 2]⟩, .old 2 ⟨3, 1, R.map ii⟩] (by simp [go_sem]) ?_
                  simp [go_sem]
                · simp at hf
                  have hst := half_done (K := kf R) hs0 (l := l) t (by rw [← hta]; omega) (by rw [← hta]; omega)
                  rw [← hta] at hst
                  rw [hst]
                  (repeat (first | refine awp_seq ?_ | refine awp_block ?_ | ((first | refine awp_runG [0, 1, 2, 6, 7, 8, 9, 13, 30, 35, 54, 1000000, 1000001, 1000002] hX ?_ | refine awp_drawnG [0, 1, 2, 6, 7, 8, 9, 13, 30, 35, 54, 1000000, 1000001, 1000002] hX mixed ?_ | refine awp_skip ?_ | refine awp_exit ?_); (simp [go_sem]; try (refine ⟨by kernel_rfl, ?_⟩)))))
                  refine sub_of _ [.old 0 ⟨3, 1, (bsort (kf R) (2 * s) l).map ii⟩, .old 1 ⟨25, 1, [.ow 2]⟩, .old 2 ⟨3, 1, R.map ii⟩] (by simp [go_sem]) ?_
                  simp [go_sem]
              · (repeat (first | refine awp_seq ?_ | refine awp_block ?_ | ((first | refine awp_runG [0, 1, 2, 6, 7, 8, 9, 13, 30, 35, 54, 1000000, 1000001, 1000002] hX ?_ | refine awp_drawnG [0, 1, 2, 6, 7, 8, 9, 13, 30, 35, 54, 1000000, 1000001, 1000002] hX mixed ?_ | refine awp_skip ?_ | refine awp_exit ?_); (simp [go_sem, hw3]; try (refine ⟨by kernel_rfl, ?_⟩)))))
                refine ⟨2 * s, by omega, by omega, ?_⟩
                refine sub_of _ [.old 0 ⟨3, 1, (bsort (kf R) (2 * s) l).map ii⟩, .old 1 ⟨25, 1, [.ow 2]⟩, .old 2 ⟨3, 1, R.map ii⟩] (by simp [go_sem]) ?_
                simp [go_sem]
                try omega
        · simp at hd
          rw [bsort_few (by omega)]
          (repeat (first | refine awp_seq ?_ | refine awp_block ?_ | ((first | refine awp_runG [0, 1, 2, 6, 7, 8, 9, 13, 30, 35, 54, 1000000, 1000001, 1000002] hX ?_ | refine awp_drawnG [0, 1, 2, 6, 7, 8, 9, 13, 30, 35, 54, 1000000, 1000001, 1000002] hX mixed ?_ | refine awp_skip ?_ | refine awp_exit ?_); (simp [go_sem]; try (refine ⟨by kernel_rfl, ?_⟩)))))
          (try refine awp_ret ?_); (try simp only [thenQ, blkQ, loopQ]); refine retH_normal [(1000000, .ow 0), (1000001, .ow 1), (1000002, .ow 2)] [.old 0 ⟨3, 1, (srt (kf R) l).map ii⟩, .old 1 ⟨25, 1, [.ow 2]⟩, .old 2 ⟨3, 1, R.map ii⟩] ?_
          simp [go_sem]

set_option maxHeartbeats 4000000 in
set_option maxRecDepth 20000 in
theorem sortG_m (l R : List Int) (hlt : allLt l) (hr : ∀ x ∈ l, 0 ≤ x ∧ x < R.length) (hl : l.length ≤ 1000) (hR : R.length ≤ 100000) (hok : okR R) :
    MeansH Tryd.prog 46 (sH l R) [.ow 0, clo] (.tup []) (sH (srt (kf R) l) R) := by
  refine meansH_fn 3 9 [] Tryd.func46 rfl rfl rfl (by simp) (by decide) rfl fun X hX => ?_
  (repeat (first | refine awp_seq ?_ | refine awp_block ?_ | ((first | refine awp_runG [0, 1, 1000000, 1000001, 1000002] hX ?_ | refine awp_drawnG [0, 1, 1000000, 1000001, 1000002] hX mixed ?_ | refine awp_skip ?_ | refine awp_exit ?_); (simp [go_sem]; try (refine ⟨by kernel_rfl, ?_⟩)))))
  first | refine callH_intro [0, 1, 2] (stableG_m l R hlt hr hl hR hok) (by simp [go_sem]) ?_ | refine callTQ_intro [0, 1, 2] (stableG_m l R hlt hr hl hR hok) (by simp [go_sem]) ?_ | refine callTE_intro [0, 1, 2] (stableG_m l R hlt hr hl hR hok) (by simp [go_sem]) ?_
  try (simp [go_sem]; try (refine ⟨by kernel_rfl, ?_⟩))
  (repeat (first | refine awp_seq ?_ | refine awp_block ?_ | ((first | refine awp_runG [0, 1, 1000000, 1000001, 1000002] hX ?_ | refine awp_drawnG [0, 1, 1000000, 1000001, 1000002] hX mixed ?_ | refine awp_skip ?_ | refine awp_exit ?_); (simp [go_sem]; try (refine ⟨by kernel_rfl, ?_⟩)))))
  (try refine awp_ret ?_); (try simp only [thenQ, blkQ, loopQ]); refine retH_normal [(1000000, .ow 0), (1000001, .ow 1), (1000002, .ow 2)] [.old 0 ⟨3, 1, (srt (kf R) l).map ii⟩, .old 1 ⟨25, 1, [.ow 2]⟩, .old 2 ⟨3, 1, R.map ii⟩] ?_
  simp [go_sem]

end Go.Proofs.YtjgkjenbgadacaaDoor
