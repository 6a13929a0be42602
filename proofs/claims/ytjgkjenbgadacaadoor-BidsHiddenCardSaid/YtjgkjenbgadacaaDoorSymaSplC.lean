/-
  Sorting places: merging, one place on the left.
-/
import Derived.Test.YtjgkjenbgadacaaDoorSwapSplC
set_option linter.all false
namespace Go.Proofs.YtjgkjenbgadacaaDoor
open Go.RowKit Go.Ab
attribute [local irreducible] AWP Go.Ab.Sub Means MeansH CallK CallG CallT CallGT CallU

theorem mid_eq (x y : Nat) (h : x + y ≤ 1000000) : IntKind.i64.wrap ((IntKind.u64.wrap ((x : Int) + y)).fdiv 2) = (((x + y) / 2 : Nat) : Int) := by
  have e : IntKind.u64.wrap ((x : Int) + y) = (x : Int) + y := IntWalk.u64_in _ (by omega)
  rw [e, Int.fdiv_eq_ediv_of_nonneg _ (by omega), w64 (by omega) (by omega)]; omega

set_option maxHeartbeats 4000000 in
set_option maxRecDepth 20000 in
theorem symA_m (Q : List Int) (x : Int) (B T R : List Int) (hB0 : 0 < B.length) (hB : B.Pairwise (bef (kf R))) (hlt : ∀ y ∈ B, x < y) (hx : 0 ≤ x ∧ x < R.length) (hr : ∀ y ∈ B, 0 ≤ y ∧ y < R.length) (hb : Q.length + 1 + B.length + T.length ≤ 100000) (hR : R.length ≤ 100000) (hok : okR R) :
    MeansH Tryd.prog 75 (sH (r4 (Q, [x], B, T)) R) [.ow 0, ii Q.length, ii (Q.length + 1 : Nat), ii (Q.length + 1 + B.length : Nat), clo] (.tup []) (sH (r3 Q (srt (kf R) (x :: B)) T) R) := by
  obtain ⟨a, ha⟩ : ∃ a, Q.length = a := ⟨_, rfl⟩
  obtain ⟨m, hm⟩ : ∃ m, a + 1 = m := ⟨_, rfl⟩
  obtain ⟨b, hbe⟩ : ∃ b, m + B.length = b := ⟨_, rfl⟩
  rw [ha, hm, hbe]
  have hma : (m : Int) - a = 1 := by omega
  have hDl := r4_len Q [x] B T
  rw [List.length_singleton] at hDl
  refine meansH_fn 3 220 [] Tryd.func75 rfl rfl rfl (by simp) (by decide) rfl fun X hX => ?_
  (repeat (first | refine awp_seq ?_ | refine awp_block ?_ | ((first | refine awp_runG [0, 1, 2, 3, 4, 10, 11, 12, 13, 14, 15, 16, 17, 18, 19, 20, 21, 22, 23, 24, 28, 33, 50, 58, 80, 85, 103, 110, 140, 151, 171, 185, 199, 213, 1000000, 1000001, 1000002] hX ?_ | refine awp_drawnG [0, 1, 2, 3, 4, 10, 11, 12, 13, 14, 15, 16, 17, 18, 19, 20, 21, 22, 23, 24, 28, 33, 50, 58, 80, 85, 103, 110, 140, 151, 171, 185, 199, 213, 1000000, 1000001, 1000002] hX mixed ?_ | refine awp_skip ?_ | refine awp_exit ?_); (simp [go_sem, hma]; (try simp (disch := omega) only [w64, td, tm]); try (refine ⟨by kernel_rfl, ?_⟩)))))
  try (simp [go_sem, hma]; try (refine ⟨by kernel_rfl, ?_⟩))
  refine awp_cond (b := true) (by simp [go_sem]) (fun _ => ?_) (fun h => by cases h)
  (repeat (first | refine awp_seq ?_ | refine awp_block ?_ | ((first | refine awp_runG [0, 1, 2, 3, 4, 10, 11, 12, 13, 14, 15, 16, 17, 18, 19, 20, 21, 22, 23, 24, 28, 33, 50, 58, 80, 85, 103, 110, 140, 151, 171, 185, 199, 213, 1000000, 1000001, 1000002] hX ?_ | refine awp_drawnG [0, 1, 2, 3, 4, 10, 11, 12, 13, 14, 15, 16, 17, 18, 19, 20, 21, 22, 23, 24, 28, 33, 50, 58, 80, 85, 103, 110, 140, 151, 171, 185, 199, 213, 1000000, 1000001, 1000002] hX mixed ?_ | refine awp_skip ?_ | refine awp_exit ?_); (simp [go_sem]; try (refine ⟨by kernel_rfl, ?_⟩)))))
  refine awp_loop (fun z : Nat × Nat => ⟨mkE [(0, .ow 0), (1, ii a), (2, ii m), (3, ii b), (4, clo), (10, ii (m + z.1 : Nat)), (11, ii (m + z.2 : Nat)), (1000000, .ow 0), (1000001, .ow 1), (1000002, .ow 2)], sH (r4 (Q, [x], B, T)) R⟩)
    (fun z => z.1 ≤ z.2 ∧ z.2 ≤ B.length ∧ (∀ e ∈ B.take z.1, bef (kf R) e x) ∧ (∀ e ∈ B.drop z.2, bef (kf R) x e)) (fun z => z.2 - z.1) (0, B.length) ?_ ?_ ?_
  · simp only [hbe, Nat.add_zero]
    refine sub_of _ [.old 0 ⟨3, 1, (r4 (Q, [x], B, T)).map ii⟩, .old 1 ⟨25, 1, [.ow 2]⟩, .old 2 ⟨3, 1, R.map ii⟩] (by simp [go_sem]) ?_
    simp [go_sem]
  · exact ⟨by simp, by simp, by simp, by simp⟩
  · rintro ⟨i, j⟩ ⟨h1, h2, h3, h4⟩
    simp only [] at h1 h2 h3 h4
    (repeat (first | refine awp_seq ?_ | refine awp_block ?_ | ((first | refine awp_runG [0, 1, 2, 3, 4, 10, 11, 12, 13, 14, 15, 16, 17, 18, 19, 20, 21, 22, 23, 24, 28, 33, 50, 58, 80, 85, 103, 110, 140, 151, 171, 185, 199, 213, 1000000, 1000001, 1000002] hX ?_ | refine awp_drawnG [0, 1, 2, 3, 4, 10, 11, 12, 13, 14, 15, 16, 17, 18, 19, 20, 21, 22, 23, 24, 28, 33, 50, 58, 80, 85, 103, 110, 140, 151, 171, 185, 199, 213, 1000000, 1000001, 1000002] hX mixed ?_ | refine awp_skip ?_ | refine awp_exit ?_); (simp [go_sem]; try (refine ⟨by kernel_rfl, ?_⟩)))))
    refine awp_cond (b := decide (i < j)) (by simp [go_sem]; try omega) (fun hc => ?_) (fun hc => ?_)
    · simp at hc
      obtain ⟨h, hh⟩ : ∃ h, (i + j) / 2 = h := ⟨_, rfl⟩
      obtain ⟨P, hPe⟩ : ∃ P, m + h = P := ⟨_, rfl⟩
      have hhB : h < B.length := by omega
      have hP : IntKind.i64.wrap ((IntKind.u64.wrap ((m : Int) + i + (m + j))).fdiv 2) = (P : Int) := by
        have := mid_eq (m + i) (m + j) (by omega)
        simp only [Int.natCast_add] at this
        rw [this]; omega
      have hwE := w64 (x := (m : Int) + i + (m + j)) (by omega) (by omega)
      have hPl : P < (r4 (Q, [x], B, T)).length := by omega
      have hal : a < (r4 (Q, [x], B, T)).length := by omega
      have hPv : (r4 (Q, [x], B, T))[P] = B[h] := by
        have := r4_B (Q := Q) (A := [x]) (T := T) hhB (by simp; omega)
        rw [← this]; congr 1; simp; omega
      have hav : (r4 (Q, [x], B, T))[a] = x := by
        have := r4_A (Q := Q) (A := [x]) (B := B) (T := T) (i := 0) (by simp) (by omega)
        simp only [List.getElem_cons_zero] at this
        refine Eq.trans ?_ this; congr 1; omega
      have hyr := hr B[h] (List.getElem_mem hhB)
      have hxy := hlt B[h] (List.getElem_mem hhB)
      have hcm := clo_m R hok B[h] x hyr hx
      have hneg := cmp_neg R B[h] x
      have t1 := fun q => take_bef (x := x) hB hhB q
      have t2 := fun q => drop_bef (x := x) hB hhB q
      have hbef : bef (kf R) B[h] x ↔ cmpC R B[h] x < 0 := by rw [hneg]; unfold bef; omega
      have hbef2 : ¬ bef (kf R) B[h] x → bef (kf R) x B[h] := fun q => (bef_total (by omega)).resolve_left q
      obtain ⟨y, hy⟩ : ∃ y, B[h] = y := ⟨_, rfl⟩
      rw [hy] at hPv hcm hbef hbef2 t1 t2
      generalize r4 (Q, [x], B, T) = D at *
      (repeat (first | refine awp_seq ?_ | refine awp_block ?_ | ((first | refine awp_runG [0, 1, 2, 3, 4, 10, 11, 12, 13, 14, 15, 16, 17, 18, 19, 20, 21, 22, 23, 24, 28, 33, 50, 58, 80, 85, 103, 110, 140, 151, 171, 185, 199, 213, 1000000, 1000001, 1000002] hX ?_ | refine awp_drawnG [0, 1, 2, 3, 4, 10, 11, 12, 13, 14, 15, 16, 17, 18, 19, 20, 21, 22, 23, 24, 28, 33, 50, 58, 80, 85, 103, 110, 140, 151, 171, 185, 199, 213, 1000000, 1000001, 1000002] hX mixed ?_ | refine awp_skip ?_ | refine awp_exit ?_); (simp [go_sem, hwE, hP, hPl, hal, hPv, hav]; try (refine ⟨by kernel_rfl, ?_⟩)))))
      (repeat refine And.intro (by first | omega | (unfold maxLen; omega) | kernel_rfl | (refine ⟨by first | omega | (unfold maxLen; omega), by first | omega | (unfold maxLen; omega)⟩) | grind) ?_)
      try (simp [go_sem, hwE, hP, hPl, hal, hPv, hav]; try (refine ⟨by kernel_rfl, ?_⟩))
      first | refine callH_intro [1, 2] (hcm) (by simp [go_sem]) ?_ | refine callTQ_intro [1, 2] (hcm) (by simp [go_sem]) ?_ | refine callTE_intro [1, 2] (hcm) (by simp [go_sem]) ?_
      try (simp [go_sem, hwE, hP, hPl, hal, hPv, hav]; try (refine ⟨by kernel_rfl, ?_⟩))
      refine awp_cond (b := decide (cmpC R y x < 0)) (by simp [go_sem]) (fun hd => ?_) (fun hd => ?_)
      · simp only [decide_eq_true_eq] at hd
        (repeat (first | refine awp_seq ?_ | refine awp_block ?_ | ((first | refine awp_runG [0, 1, 2, 3, 4, 10, 11, 12, 13, 14, 15, 16, 17, 18, 19, 20, 21, 22, 23, 24, 28, 33, 50, 58, 80, 85, 103, 110, 140, 151, 171, 185, 199, 213, 1000000, 1000001, 1000002] hX ?_ | refine awp_drawnG [0, 1, 2, 3, 4, 10, 11, 12, 13, 14, 15, 16, 17, 18, 19, 20, 21, 22, 23, 24, 28, 33, 50, 58, 80, 85, 103, 110, 140, 151, 171, 185, 199, 213, 1000000, 1000001, 1000002] hX mixed ?_ | refine awp_skip ?_ | refine awp_exit ?_); (simp [go_sem]; (try simp (disch := omega) only [w64, td, tm]); try (refine ⟨by kernel_rfl, ?_⟩)))))
        refine ⟨h + 1, j, ⟨by omega, h2, t1 (hbef.2 hd), h4⟩, by omega, ?_⟩
        refine sub_of _ [.old 0 ⟨3, 1, D.map ii⟩, .old 1 ⟨25, 1, [.ow 2]⟩, .old 2 ⟨3, 1, R.map ii⟩] (by simp [go_sem]) ?_
        simp [go_sem]
        try omega
      · simp only [decide_eq_false_iff_not] at hd
        (repeat (first | refine awp_seq ?_ | refine awp_block ?_ | ((first | refine awp_runG [0, 1, 2, 3, 4, 10, 11, 12, 13, 14, 15, 16, 17, 18, 19, 20, 21, 22, 23, 24, 28, 33, 50, 58, 80, 85, 103, 110, 140, 151, 171, 185, 199, 213, 1000000, 1000001, 1000002] hX ?_ | refine awp_drawnG [0, 1, 2, 3, 4, 10, 11, 12, 13, 14, 15, 16, 17, 18, 19, 20, 21, 22, 23, 24, 28, 33, 50, 58, 80, 85, 103, 110, 140, 151, 171, 185, 199, 213, 1000000, 1000001, 1000002] hX mixed ?_ | refine awp_skip ?_ | refine awp_exit ?_); (simp [go_sem]; (try simp (disch := omega) only [w64, td, tm]); try (refine ⟨by kernel_rfl, ?_⟩)))))
        refine ⟨i, h, ⟨by omega, by omega, h3, t2 (hbef2 fun q => hd (hbef.1 q))⟩, by omega, ?_⟩
        refine sub_of _ [.old 0 ⟨3, 1, D.map ii⟩, .old 1 ⟨25, 1, [.ow 2]⟩, .old 2 ⟨3, 1, R.map ii⟩] (by simp [go_sem]) ?_
        simp [go_sem]
        try omega
    · have hij : i = j := by simp at hc; omega
      subst hij
      have hfin := rowX_srt' (pre := Q) (x := x) (post := T) (.refl (x :: B)) hB h3 h4
      rw [r4_one] at *
      (repeat (first | refine awp_seq ?_ | refine awp_block ?_ | ((first | refine awp_runG [0, 1, 2, 3, 4, 10, 11, 12, 13, 14, 15, 16, 17, 18, 19, 20, 21, 22, 23, 24, 28, 33, 50, 58, 80, 85, 103, 110, 140, 151, 171, 185, 199, 213, 1000000, 1000001, 1000002] hX ?_ | refine awp_drawnG [0, 1, 2, 3, 4, 10, 11, 12, 13, 14, 15, 16, 17, 18, 19, 20, 21, 22, 23, 24, 28, 33, 50, 58, 80, 85, 103, 110, 140, 151, 171, 185, 199, 213, 1000000, 1000001, 1000002] hX mixed ?_ | refine awp_skip ?_ | refine awp_exit ?_); (simp [go_sem]; try (refine ⟨by kernel_rfl, ?_⟩)))))
      refine awp_loop (fun k : Nat => ⟨mkE [(0, .ow 0), (10, ii (m + i : Nat)), (13, ii (a + k : Nat)), (1000000, .ow 0), (1000001, .ow 1), (1000002, .ow 2)], sH (rowX Q B x T k) R⟩) (fun k => k ≤ i) (fun k => i - k) 0 ?_ ?_ ?_
      · refine sub_of _ [.old 0 ⟨3, 1, (rowX Q B x T 0).map ii⟩, .old 1 ⟨25, 1, [.ow 2]⟩, .old 2 ⟨3, 1, R.map ii⟩] (by simp [go_sem]) ?_
        simp [go_sem]
      · omega
      · intro k hk
        have hwm := w64 (x := (m : Int) + i - 1) (by omega) (by omega)
        (repeat (first | refine awp_seq ?_ | refine awp_block ?_ | ((first | refine awp_runG [0, 1, 2, 3, 4, 10, 11, 12, 13, 14, 15, 16, 17, 18, 19, 20, 21, 22, 23, 24, 28, 33, 50, 58, 80, 85, 103, 110, 140, 151, 171, 185, 199, 213, 1000000, 1000001, 1000002] hX ?_ | refine awp_drawnG [0, 1, 2, 3, 4, 10, 11, 12, 13, 14, 15, 16, 17, 18, 19, 20, 21, 22, 23, 24, 28, 33, 50, 58, 80, 85, 103, 110, 140, 151, 171, 185, 199, 213, 1000000, 1000001, 1000002] hX mixed ?_ | refine awp_skip ?_ | refine awp_exit ?_); (simp [go_sem, hwm]; (try simp (disch := omega) only [w64, td, tm]); try (refine ⟨by kernel_rfl, ?_⟩)))))
        try (simp [go_sem, hwm]; try (refine ⟨by kernel_rfl, ?_⟩))
        refine awp_cond (b := decide (k < i)) (by simp [go_sem]; try omega) (fun hd => ?_) (fun hd => ?_)
        · simp at hd
          have hkB : k < B.length := by omega
          have hlen := rowX_len (pre := Q) (x := x) (post := T) (s := B) (k := k) (by omega)
          obtain ⟨p, hp⟩ : ∃ p, a + k = p := ⟨_, rfl⟩
          have hp' : (a : Int) + k = p := by omega
          have hi1 : p + 1 < (rowX Q B x T k).length := by omega
          have hi2 : p < (rowX Q B x T k).length := by omega
          have hv1 : (rowX Q B x T k)[p] = x := by
            have := rowX_at (pre := Q) (s := B) (x := x) (post := T) (k := k) (by omega) (by omega)
            refine Eq.trans ?_ this; congr 1; omega
          have hv2 : (rowX Q B x T k)[p + 1] = B[k] := by
            have := rowX_next (pre := Q) (s := B) (x := x) (post := T) (k := k) hkB (by omega)
            refine Eq.trans ?_ this; congr 1; omega
          have hsw := rowX_swap' (pre := Q) (x := x) (post := T) hkB
          rw [show Q.length + k = p by omega, show Q.length + (k + 1) = p + 1 by omega] at hsw
          obtain ⟨y, hy⟩ : ∃ y, B[k] = y := ⟨_, rfl⟩
          rw [hy] at hv2 hsw
          have hpb : p + 1 ≤ 100000 := by omega
          have ht1 : ((p : Int) + 1).toNat = p + 1 := by omega
          generalize rowX Q B x T k = D at *
          have hwp := w64 (x := (p : Int)) (by omega) (by omega)
          have hwp1 := w64 (x := (p : Int) + 1) (by omega) (by omega)
          have hns : nth ((D.map ii).set p (ii y)) (p + 1) = ii y := by
            rw [← List.map_set, nth_map ii (by simpa using hi1), List.getElem_set_ne (by omega), hv2]
          have hzs : zoneEs (((D.map ii).set p (ii y)).set (p + 1) (ii x)) = true := by
            rw [← List.map_set, ← List.map_set]; exact zoneEs_map _ _ (fun _ => rfl)
          (repeat (first | refine awp_seq ?_ | refine awp_block ?_ | ((first | refine awp_runG [0, 1, 2, 3, 4, 10, 11, 12, 13, 14, 15, 16, 17, 18, 19, 20, 21, 22, 23, 24, 28, 33, 50, 58, 80, 85, 103, 110, 140, 151, 171, 185, 199, 213, 1000000, 1000001, 1000002] hX ?_ | refine awp_drawnG [0, 1, 2, 3, 4, 10, 11, 12, 13, 14, 15, 16, 17, 18, 19, 20, 21, 22, 23, 24, 28, 33, 50, 58, 80, 85, 103, 110, 140, 151, 171, 185, 199, 213, 1000000, 1000001, 1000002] hX mixed ?_ | refine awp_skip ?_ | refine awp_exit ?_); (simp [go_sem, hp', hwp, hwp1, hi1, hi2, hv1, hv2, ht1]; try (refine ⟨by kernel_rfl, ?_⟩)))))
          (repeat refine And.intro (by first | omega | (unfold maxLen; omega) | kernel_rfl | (refine ⟨by first | omega | (unfold maxLen; omega), by first | omega | (unfold maxLen; omega)⟩) | grind) ?_)
          (repeat (first | refine awp_seq ?_ | refine awp_block ?_ | ((first | refine awp_runG [0, 1, 2, 3, 4, 10, 11, 12, 13, 14, 15, 16, 17, 18, 19, 20, 21, 22, 23, 24, 28, 33, 50, 58, 80, 85, 103, 110, 140, 151, 171, 185, 199, 213, 1000000, 1000001, 1000002] hX ?_ | refine awp_drawnG [0, 1, 2, 3, 4, 10, 11, 12, 13, 14, 15, 16, 17, 18, 19, 20, 21, 22, 23, 24, 28, 33, 50, 58, 80, 85, 103, 110, 140, 151, 171, 185, 199, 213, 1000000, 1000001, 1000002] hX mixed ?_ | refine awp_skip ?_ | refine awp_exit ?_); (simp [go_sem, hp', hwp, hwp1, hi1, hi2, hv1, hv2, ht1]; (try simp (disch := omega) only [w64, td, tm]); try (refine ⟨by kernel_rfl, ?_⟩)))))
          refine ⟨k + 1, by omega, by omega, ?_⟩
          rw [← hsw]
          refine sub_of _ [.old 0 ⟨3, 1, ((D.set p y).set (p + 1) x).map ii⟩, .old 1 ⟨25, 1, [.ow 2]⟩, .old 2 ⟨3, 1, R.map ii⟩] (by simp [go_sem, hns, hzs]) ?_
          simp [go_sem]
          try omega
        · have : k = i := by simp at hd; omega
          subst this
          rw [hfin]
          (repeat (first | refine awp_seq ?_ | refine awp_block ?_ | ((first | refine awp_runG [0, 1, 2, 3, 4, 10, 11, 12, 13, 14, 15, 16, 17, 18, 19, 20, 21, 22, 23, 24, 28, 33, 50, 58, 80, 85, 103, 110, 140, 151, 171, 185, 199, 213, 1000000, 1000001, 1000002] hX ?_ | refine awp_drawnG [0, 1, 2, 3, 4, 10, 11, 12, 13, 14, 15, 16, 17, 18, 19, 20, 21, 22, 23, 24, 28, 33, 50, 58, 80, 85, 103, 110, 140, 151, 171, 185, 199, 213, 1000000, 1000001, 1000002] hX mixed ?_ | refine awp_skip ?_ | refine awp_exit ?_); (simp [go_sem]; try (refine ⟨by kernel_rfl, ?_⟩)))))
          refine awp_ret ?_; (try simp only [thenQ, blkQ, loopQ]); refine retH_ret [(1000000, .ow 0), (1000001, .ow 1), (1000002, .ow 2)] [.old 0 ⟨3, 1, (r3 Q (srt (kf R) (x :: B)) T).map ii⟩, .old 1 ⟨25, 1, [.ow 2]⟩, .old 2 ⟨3, 1, R.map ii⟩] ?_
          simp [go_sem]

end Go.Proofs.YtjgkjenbgadacaaDoor
