/-
  Lemmas for the statement at the top.
-/
import Derived.Test.YtjgkjenbgadacaaDoorP8
import Derived.Test.YtjgkjenbgadacaaDoorP6
set_option linter.all false
namespace Go.Proofs.YtjgkjenbgadacaaDoor
open Go.RowKit Go.Ab
attribute [local irreducible] AWP Go.Ab.Sub Means MeansH CallK CallG CallT CallGT CallU
set_option maxHeartbeats 4000000 in
set_option maxRecDepth 20000 in
theorem symB_m (Q A : List Int) (x : Int) (T R : List Int) (hA0 : 1 < A.length) (hA : A.Pairwise (bef (kf R))) (hlt : ∀ y ∈ A, y < x) (hx : 0 ≤ x ∧ x < R.length) (hr : ∀ y ∈ A, 0 ≤ y ∧ y < R.length) (hb : Q.length + A.length + 1 + T.length ≤ 100000) (hR : R.length ≤ 100000) (hok : okR R) :
    MeansH Tryd.prog 75 (sH (r4 (Q, A, [x], T)) R) [.ow 0, ii Q.length, ii (Q.length + A.length : Nat), ii (Q.length + A.length + 1 : Nat), clo] (.tup []) (sH (r3 Q (srt (kf R) (A ++ [x])) T) R) := by
  obtain ⟨a, ha⟩ : ∃ a, Q.length = a := ⟨_, rfl⟩
  obtain ⟨m, hm⟩ : ∃ m, a + A.length = m := ⟨_, rfl⟩
  obtain ⟨b, hbe⟩ : ∃ b, m + 1 = b := ⟨_, rfl⟩
  rw [ha, hm, hbe]
  have hma : (m : Int) - a = A.length := by omega
  have hma2 : ¬ (A.length : Int) = 1 := by omega
  have hma3 : ¬ A.length = 1 := by omega
  have hbm : (b : Int) - m = 1 := by omega
  have hDl := r4_len Q A [x] T
  rw [List.length_singleton] at hDl
  refine meansH_fn 3 220 [] Tryd.func75 rfl rfl rfl (by simp) (by decide) rfl fun X hX => ?_
  (repeat (first | refine awp_seq ?_ | refine awp_block ?_ | ((first | refine awp_runG [0, 1, 2, 3, 4, 10, 11, 12, 13, 14, 15, 16, 17, 18, 19, 20, 21, 22, 23, 24, 28, 33, 50, 58, 80, 85, 103, 110, 140, 151, 171, 185, 199, 213, 1000000, 1000001, 1000002] hX ?_ | refine awp_drawnG [0, 1, 2, 3, 4, 10, 11, 12, 13, 14, 15, 16, 17, 18, 19, 20, 21, 22, 23, 24, 28, 33, 50, 58, 80, 85, 103, 110, 140, 151, 171, 185, 199, 213, 1000000, 1000001, 1000002] hX mixed ?_ | refine awp_skip ?_ | refine awp_exit ?_); (simp [go_sem, hma, hma2, hma3]; (try simp (disch := omega) only [w64, td, tm]); try (refine ⟨by kernel_rfl, ?_⟩)))))
  try (simp [go_sem, hma, hma2, hma3]; try (refine ⟨by kernel_rfl, ?_⟩))
  refine awp_cond (b := false) (by simp [go_sem, hma3]; try omega) (fun h => by cases h) (fun _ => ?_)
  (repeat (first | refine awp_seq ?_ | refine awp_block ?_ | ((first | refine awp_runG [0, 1, 2, 3, 4, 10, 11, 12, 13, 14, 15, 16, 17, 18, 19, 20, 21, 22, 23, 24, 28, 33, 50, 58, 80, 85, 103, 110, 140, 151, 171, 185, 199, 213, 1000000, 1000001, 1000002] hX ?_ | refine awp_drawnG [0, 1, 2, 3, 4, 10, 11, 12, 13, 14, 15, 16, 17, 18, 19, 20, 21, 22, 23, 24, 28, 33, 50, 58, 80, 85, 103, 110, 140, 151, 171, 185, 199, 213, 1000000, 1000001, 1000002] hX mixed ?_ | refine awp_skip ?_ | refine awp_exit ?_); (simp [go_sem, hbm]; (try simp (disch := omega) only [w64, td, tm]); try (refine ⟨by kernel_rfl, ?_⟩)))))
  try (simp [go_sem, hbm]; try (refine ⟨by kernel_rfl, ?_⟩))
  refine awp_cond (b := true) (by simp [go_sem]) (fun _ => ?_) (fun h => by cases h)
  (repeat (first | refine awp_seq ?_ | refine awp_block ?_ | ((first | refine awp_runG [0, 1, 2, 3, 4, 10, 11, 12, 13, 14, 15, 16, 17, 18, 19, 20, 21, 22, 23, 24, 28, 33, 50, 58, 80, 85, 103, 110, 140, 151, 171, 185, 199, 213, 1000000, 1000001, 1000002] hX ?_ | refine awp_drawnG [0, 1, 2, 3, 4, 10, 11, 12, 13, 14, 15, 16, 17, 18, 19, 20, 21, 22, 23, 24, 28, 33, 50, 58, 80, 85, 103, 110, 140, 151, 171, 185, 199, 213, 1000000, 1000001, 1000002] hX mixed ?_ | refine awp_skip ?_ | refine awp_exit ?_); (simp [go_sem]; try (refine ⟨by kernel_rfl, ?_⟩)))))
  refine awp_loop (fun z : Nat × Nat => ⟨mkE [(0, .ow 0), (1, ii a), (2, ii m), (3, ii b), (4, clo), (14, ii (a + z.1 : Nat)), (15, ii (a + z.2 : Nat)), (1000000, .ow 0), (1000001, .ow 1), (1000002, .ow 2)], sH (r4 (Q, A, [x], T)) R⟩)
    (fun z => z.1 ≤ z.2 ∧ z.2 ≤ A.length ∧ (∀ e ∈ A.take z.1, bef (kf R) e x) ∧ (∀ e ∈ A.drop z.2, bef (kf R) x e)) (fun z => z.2 - z.1) (0, A.length) ?_ ?_ ?_
  · simp only [hm, Nat.add_zero]
    refine sub_of _ [.old 0 ⟨3, 1, (r4 (Q, A, [x], T)).map ii⟩, .old 1 ⟨25, 1, [.ow 2]⟩, .old 2 ⟨3, 1, R.map ii⟩] (by simp [go_sem]) ?_
    simp [go_sem]
  · exact ⟨by simp, by simp, by simp, by simp⟩
  · rintro ⟨i, j⟩ ⟨h1, h2, h3, h4⟩
    simp only [] at h1 h2 h3 h4
    (repeat (first | refine awp_seq ?_ | refine awp_block ?_ | ((first | refine awp_runG [0, 1, 2, 3, 4, 10, 11, 12, 13, 14, 15, 16, 17, 18, 19, 20, 21, 22, 23, 24, 28, 33, 50, 58, 80, 85, 103, 110, 140, 151, 171, 185, 199, 213, 1000000, 1000001, 1000002] hX ?_ | refine awp_drawnG [0, 1, 2, 3, 4, 10, 11, 12, 13, 14, 15, 16, 17, 18, 19, 20, 21, 22, 23, 24, 28, 33, 50, 58, 80, 85, 103, 110, 140, 151, 171, 185, 199, 213, 1000000, 1000001, 1000002] hX mixed ?_ | refine awp_skip ?_ | refine awp_exit ?_); (simp [go_sem]; try (refine ⟨by kernel_rfl, ?_⟩)))))
    refine awp_cond (b := decide (i < j)) (by simp [go_sem]; try omega) (fun hc => ?_) (fun hc => ?_)
    · simp at hc
      obtain ⟨h, hh⟩ : ∃ h, (i + j) / 2 = h := ⟨_, rfl⟩
      obtain ⟨P, hPe⟩ : ∃ P, a + h = P := ⟨_, rfl⟩
      have hhA : h < A.length := by omega
      have hwE := w64 (x := (a : Int) + i + (a + j)) (by omega) (by omega)
      have hP : IntKind.i64.wrap ((IntKind.u64.wrap ((a : Int) + i + (a + j))).fdiv 2) = (P : Int) := by
        have := mid_eq (a + i) (a + j) (by omega)
        simp only [Int.natCast_add] at this
        rw [this]; omega
      have hPl : P < (r4 (Q, A, [x], T)).length := by omega
      have hml : m < (r4 (Q, A, [x], T)).length := by omega
      have hPv : (r4 (Q, A, [x], T))[P] = A[h] := by
        have := r4_A (Q := Q) (B := [x]) (T := T) hhA (by omega)
        rw [← this]; congr 1; omega
      have hmv : (r4 (Q, A, [x], T))[m] = x := by
        have := r4_B (Q := Q) (A := A) (B := [x]) (T := T) (i := 0) (by simp) (by omega)
        simp only [List.getElem_cons_zero] at this
        refine Eq.trans ?_ this; congr 1; omega
      have hyr := hr A[h] (List.getElem_mem hhA)
      have hxy := hlt A[h] (List.getElem_mem hhA)
      have hcm := clo_m R hok x A[h] hx hyr
      have hneg := cmp_neg R x A[h]
      have t1 := fun q => take_bef (x := x) hA hhA q
      have t2 := fun q => drop_bef (x := x) hA hhA q
      have hbef : bef (kf R) x A[h] ↔ cmpC R x A[h] < 0 := by rw [hneg]; unfold bef; omega
      have hbef2 : ¬ bef (kf R) x A[h] → bef (kf R) A[h] x := fun q => (bef_total (by omega)).resolve_left q
      obtain ⟨y, hy⟩ : ∃ y, A[h] = y := ⟨_, rfl⟩
      rw [hy] at hPv hcm hbef hbef2 t1 t2
      generalize r4 (Q, A, [x], T) = D at *
      (repeat (first | refine awp_seq ?_ | refine awp_block ?_ | ((first | refine awp_runG [0, 1, 2, 3, 4, 10, 11, 12, 13, 14, 15, 16, 17, 18, 19, 20, 21, 22, 23, 24, 28, 33, 50, 58, 80, 85, 103, 110, 140, 151, 171, 185, 199, 213, 1000000, 1000001, 1000002] hX ?_ | refine awp_drawnG [0, 1, 2, 3, 4, 10, 11, 12, 13, 14, 15, 16, 17, 18, 19, 20, 21, 22, 23, 24, 28, 33, 50, 58, 80, 85, 103, 110, 140, 151, 171, 185, 199, 213, 1000000, 1000001, 1000002] hX mixed ?_ | refine awp_skip ?_ | refine awp_exit ?_); (simp [go_sem, hwE, hP, hPl, hml, hPv, hmv]; try (refine ⟨by kernel_rfl, ?_⟩)))))
      (repeat refine And.intro (by first | omega | (unfold maxLen; omega) | kernel_rfl | (refine ⟨by first | omega | (unfold maxLen; omega), by first | omega | (unfold maxLen; omega)⟩) | grind) ?_)
      try (simp [go_sem, hwE, hP, hPl, hml, hPv, hmv]; try (refine ⟨by kernel_rfl, ?_⟩))
      first | refine callH_intro [1, 2] (hcm) (by simp [go_sem]) ?_ | refine callTQ_intro [1, 2] (hcm) (by simp [go_sem]) ?_ | refine callTE_intro [1, 2] (hcm) (by simp [go_sem]) ?_
      try (simp [go_sem, hwE, hP, hPl, hml, hPv, hmv]; try (refine ⟨by kernel_rfl, ?_⟩))
      refine awp_cond (b := !decide (cmpC R x y < 0)) (by simp [go_sem]; try omega) (fun hd => ?_) (fun hd => ?_)
      · have hd : ¬ cmpC R x y < 0 := by simpa using hd
        (repeat (first | refine awp_seq ?_ | refine awp_block ?_ | ((first | refine awp_runG [0, 1, 2, 3, 4, 10, 11, 12, 13, 14, 15, 16, 17, 18, 19, 20, 21, 22, 23, 24, 28, 33, 50, 58, 80, 85, 103, 110, 140, 151, 171, 185, 199, 213, 1000000, 1000001, 1000002] hX ?_ | refine awp_drawnG [0, 1, 2, 3, 4, 10, 11, 12, 13, 14, 15, 16, 17, 18, 19, 20, 21, 22, 23, 24, 28, 33, 50, 58, 80, 85, 103, 110, 140, 151, 171, 185, 199, 213, 1000000, 1000001, 1000002] hX mixed ?_ | refine awp_skip ?_ | refine awp_exit ?_); (simp [go_sem]; (try simp (disch := omega) only [w64, td, tm]); try (refine ⟨by kernel_rfl, ?_⟩)))))
        refine ⟨h + 1, j, ⟨by omega, h2, t1 (hbef2 fun q => hd (hbef.1 q)), h4⟩, by omega, ?_⟩
        refine sub_of _ [.old 0 ⟨3, 1, D.map ii⟩, .old 1 ⟨25, 1, [.ow 2]⟩, .old 2 ⟨3, 1, R.map ii⟩] (by simp [go_sem]) ?_
        simp [go_sem]
        try omega
      · have hd : cmpC R x y < 0 := by simpa using hd
        (repeat (first | refine awp_seq ?_ | refine awp_block ?_ | ((first | refine awp_runG [0, 1, 2, 3, 4, 10, 11, 12, 13, 14, 15, 16, 17, 18, 19, 20, 21, 22, 23, 24, 28, 33, 50, 58, 80, 85, 103, 110, 140, 151, 171, 185, 199, 213, 1000000, 1000001, 1000002] hX ?_ | refine awp_drawnG [0, 1, 2, 3, 4, 10, 11, 12, 13, 14, 15, 16, 17, 18, 19, 20, 21, 22, 23, 24, 28, 33, 50, 58, 80, 85, 103, 110, 140, 151, 171, 185, 199, 213, 1000000, 1000001, 1000002] hX mixed ?_ | refine awp_skip ?_ | refine awp_exit ?_); (simp [go_sem]; (try simp (disch := omega) only [w64, td, tm]); try (refine ⟨by kernel_rfl, ?_⟩)))))
        refine ⟨i, h, ⟨by omega, by omega, h3, t2 (hbef.2 hd)⟩, by omega, ?_⟩
        refine sub_of _ [.old 0 ⟨3, 1, D.map ii⟩, .old 1 ⟨25, 1, [.ow 2]⟩, .old 2 ⟨3, 1, R.map ii⟩] (by simp [go_sem]) ?_
        simp [go_sem]
        try omega
    · have hij : i = j := by simp at hc; omega
      subst hij
      have hfin := rowX_srt' (pre := Q) (x := x) (post := T) (l := A ++ [x]) (List.perm_append_singleton x A).symm hA h3 h4
      rw [r4_last] at *
      (repeat (first | refine awp_seq ?_ | refine awp_block ?_ | ((first | refine awp_runG [0, 1, 2, 3, 4, 10, 11, 12, 13, 14, 15, 16, 17, 18, 19, 20, 21, 22, 23, 24, 28, 33, 50, 58, 80, 85, 103, 110, 140, 151, 171, 185, 199, 213, 1000000, 1000001, 1000002] hX ?_ | refine awp_drawnG [0, 1, 2, 3, 4, 10, 11, 12, 13, 14, 15, 16, 17, 18, 19, 20, 21, 22, 23, 24, 28, 33, 50, 58, 80, 85, 103, 110, 140, 151, 171, 185, 199, 213, 1000000, 1000001, 1000002] hX mixed ?_ | refine awp_skip ?_ | refine awp_exit ?_); (simp [go_sem]; try (refine ⟨by kernel_rfl, ?_⟩)))))
      refine awp_loop (fun k : Nat => ⟨mkE [(0, .ow 0), (14, ii (a + i : Nat)), (17, ii (a + k : Nat)), (1000000, .ow 0), (1000001, .ow 1), (1000002, .ow 2)], sH (rowX Q A x T k) R⟩) (fun k => i ≤ k ∧ k ≤ A.length) (fun k => k) A.length ?_ ?_ ?_
      · rw [hm]
        refine sub_of _ [.old 0 ⟨3, 1, (rowX Q A x T A.length).map ii⟩, .old 1 ⟨25, 1, [.ow 2]⟩, .old 2 ⟨3, 1, R.map ii⟩] (by simp [go_sem]) ?_
        simp [go_sem]
      · exact ⟨h2, Nat.le_refl _⟩
      · rintro k ⟨hik, hk⟩
        (repeat (first | refine awp_seq ?_ | refine awp_block ?_ | ((first | refine awp_runG [0, 1, 2, 3, 4, 10, 11, 12, 13, 14, 15, 16, 17, 18, 19, 20, 21, 22, 23, 24, 28, 33, 50, 58, 80, 85, 103, 110, 140, 151, 171, 185, 199, 213, 1000000, 1000001, 1000002] hX ?_ | refine awp_drawnG [0, 1, 2, 3, 4, 10, 11, 12, 13, 14, 15, 16, 17, 18, 19, 20, 21, 22, 23, 24, 28, 33, 50, 58, 80, 85, 103, 110, 140, 151, 171, 185, 199, 213, 1000000, 1000001, 1000002] hX mixed ?_ | refine awp_skip ?_ | refine awp_exit ?_); (simp [go_sem]; try (refine ⟨by kernel_rfl, ?_⟩)))))
        refine awp_cond (b := decide (i < k)) (by simp [go_sem]; try omega) (fun hd => ?_) (fun hd => ?_)
        · simp at hd
          obtain ⟨c, hc⟩ : ∃ c, k = c + 1 := ⟨k - 1, by omega⟩
          subst hc
          have hkA : c < A.length := by omega
          have hlen := rowX_len (pre := Q) (x := x) (post := T) (s := A) (k := c + 1) (by omega)
          obtain ⟨p, hp⟩ : ∃ p, a + c = p := ⟨_, rfl⟩
          have hp1 : a + (c + 1) = p + 1 := by omega
          have hp' : (a : Int) + (c + 1) = p + 1 := by omega
          have hi1 : p + 1 < (rowX Q A x T (c + 1)).length := by omega
          have hi2 : p < (rowX Q A x T (c + 1)).length := by omega
          have hv1 : (rowX Q A x T (c + 1))[p + 1] = x := by
            have := rowX_at (pre := Q) (s := A) (x := x) (post := T) (k := c + 1) (by omega) (by omega)
            refine Eq.trans ?_ this; congr 1; omega
          have hv2 : (rowX Q A x T (c + 1))[p] = A[c] := by
            have := rowX_prev (pre := Q) (s := A) (x := x) (post := T) (k := c) hkA (by omega)
            refine Eq.trans ?_ this; congr 1; omega
          have hsw := rowX_swap (pre := Q) (x := x) (post := T) hkA
          rw [show Q.length + c = p by omega, show Q.length + (c + 1) = p + 1 by omega] at hsw
          obtain ⟨y, hy⟩ : ∃ y, A[c] = y := ⟨_, rfl⟩
          rw [hy] at hv2 hsw
          have hpb : p + 1 ≤ 100000 := by omega
          have ht1 : ((p : Int) + 1).toNat = p + 1 := by omega
          generalize rowX Q A x T (c + 1) = D at *
          have hwp := w64 (x := (p : Int)) (by omega) (by omega)
          have hwp1 := w64 (x := (p : Int) + 1) (by omega) (by omega)
          have hns : nth ((D.map ii).set (p + 1) (ii y)) p = ii y := by
            rw [← List.map_set, nth_map ii (by simpa using hi2), List.getElem_set_ne (by omega), hv2]
          have hzs : zoneEs (((D.map ii).set (p + 1) (ii y)).set p (ii x)) = true := by
            rw [← List.map_set, ← List.map_set]; exact zoneEs_map _ _ (fun _ => rfl)
          (repeat (first | refine awp_seq ?_ | refine awp_block ?_ | ((first | refine awp_runG [0, 1, 2, 3, 4, 10, 11, 12, 13, 14, 15, 16, 17, 18, 19, 20, 21, 22, 23, 24, 28, 33, 50, 58, 80, 85, 103, 110, 140, 151, 171, 185, 199, 213, 1000000, 1000001, 1000002] hX ?_ | refine awp_drawnG [0, 1, 2, 3, 4, 10, 11, 12, 13, 14, 15, 16, 17, 18, 19, 20, 21, 22, 23, 24, 28, 33, 50, 58, 80, 85, 103, 110, 140, 151, 171, 185, 199, 213, 1000000, 1000001, 1000002] hX mixed ?_ | refine awp_skip ?_ | refine awp_exit ?_); (simp [go_sem, hp', hwp, hwp1, hi1, hi2, hv1, hv2, ht1]; try (refine ⟨by kernel_rfl, ?_⟩)))))
          (repeat refine And.intro (by first | omega | (unfold maxLen; omega) | kernel_rfl | (refine ⟨by first | omega | (unfold maxLen; omega), by first | omega | (unfold maxLen; omega)⟩) | grind) ?_)
          (repeat (first | refine awp_seq ?_ | refine awp_block ?_ | ((first | refine awp_runG [0, 1, 2, 3, 4, 10, 11, 12, 13, 14, 15, 16, 17, 18, 19, 20, 21, 22, 23, 24, 28, 33, 50, 58, 80, 85, 103, 110, 140, 151, 171, 185, 199, 213, 1000000, 1000001, 1000002] hX ?_ | refine awp_drawnG [0, 1, 2, 3, 4, 10, 11, 12, 13, 14, 15, 16, 17, 18, 19, 20, 21, 22, 23, 24, 28, 33, 50, 58, 80, 85, 103, 110, 140, 151, 171, 185, 199, 213, 1000000, 1000001, 1000002] hX mixed ?_ | refine awp_skip ?_ | refine awp_exit ?_); (simp [go_sem, hp', hwp, hwp1, hi1, hi2, hv1, hv2, ht1]; (try simp (disch := omega) only [w64, td, tm]); try (refine ⟨by kernel_rfl, ?_⟩)))))
          refine ⟨c, ⟨by omega, by omega⟩, by omega, ?_⟩
          rw [← hsw]
          refine sub_of _ [.old 0 ⟨3, 1, ((D.set (p + 1) y).set p x).map ii⟩, .old 1 ⟨25, 1, [.ow 2]⟩, .old 2 ⟨3, 1, R.map ii⟩] (by simp [go_sem, hns, hzs]) ?_
          simp [go_sem]
          try omega
        · have : k = i := by simp at hd; omega
          subst this
          rw [hfin]
          (repeat (first | refine awp_seq ?_ | refine awp_block ?_ | ((first | refine awp_runG [0, 1, 2, 3, 4, 10, 11, 12, 13, 14, 15, 16, 17, 18, 19, 20, 21, 22, 23, 24, 28, 33, 50, 58, 80, 85, 103, 110, 140, 151, 171, 185, 199, 213, 1000000, 1000001, 1000002] hX ?_ | refine awp_drawnG [0, 1, 2, 3, 4, 10, 11, 12, 13, 14, 15, 16, 17, 18, 19, 20, 21, 22, 23, 24, 28, 33, 50, 58, 80, 85, 103, 110, 140, 151, 171, 185, 199, 213, 1000000, 1000001, 1000002] hX mixed ?_ | refine awp_skip ?_ | refine awp_exit ?_); (simp [go_sem]; try (refine ⟨by kernel_rfl, ?_⟩)))))
          refine awp_ret ?_; (try simp only [thenQ, blkQ, loopQ]); refine retH_ret [(1000000, .ow 0), (1000001, .ow 1), (1000002, .ow 2)] [.old 0 ⟨3, 1, (r3 Q (srt (kf R) (A ++ [x])) T).map ii⟩, .old 1 ⟨25, 1, [.ow 2]⟩, .old 2 ⟨3, 1, R.map ii⟩] ?_
          simp [go_sem]
end Go.Proofs.YtjgkjenbgadacaaDoor

namespace Go.Proofs.YtjgkjenbgadacaaDoor
open Go.RowKit Go.Ab
attribute [local irreducible] AWP Go.Ab.Sub Means MeansH CallK CallG CallT CallGT CallU
theorem pw_take {K : Int → Int} {A B : List Int} {s e : Nat} (hA : A.Pairwise (bef K)) (hB : B.Pairwise (bef K)) (h : s = 0 ∨ B.length ≤ e ∨ (∃ (h1 : s - 1 < A.length) (h2 : e < B.length), bef K A[s - 1] B[e])) : ∀ x ∈ A.take s, ∀ y ∈ B.drop e, bef K x y := by
  intro x hx y hy
  rcases h with h | h | ⟨h1, h2, h⟩
  · subst h; simp at hx
  · rw [List.drop_of_length_le h] at hy; cases hy
  · by_cases hs : s = 0
    · subst hs; simp at hx
    · have := take_bef hA h1 h x (by rw [show s - 1 + 1 = s by omega]; exact hx)
      exact drop_bef hB h2 this y hy
set_option maxHeartbeats 16000000 in
set_option maxRecDepth 20000 in
theorem sym_m (R : List Int) (hR : R.length ≤ 100000) (hok : okR R) : ∀ (N : Nat) (Q A B T : List Int), A.length + B.length ≤ N → 0 < A.length → 0 < B.length → A.Pairwise (bef (kf R)) → B.Pairwise (bef (kf R)) → (∀ x ∈ A, ∀ y ∈ B, x < y) → (∀ x ∈ A, 0 ≤ x ∧ x < R.length) → (∀ x ∈ B, 0 ≤ x ∧ x < R.length) → Q.length + A.length + B.length + T.length ≤ 100000 →
    MeansH Tryd.prog 75 (sH (r4 (Q, A, B, T)) R) [.ow 0, ii Q.length, ii (Q.length + A.length : Nat), ii (Q.length + A.length + B.length : Nat), clo] (.tup []) (sH (r3 Q (srt (kf R) (A ++ B)) T) R)
  | 0, Q, A, B, T => by intro h1 h2; omega
  | N + 1, Q, A, B, T => by
    intro hN hA0 hB0 hA hB hlt hra hrb hb
    by_cases hA1 : A.length = 1
    · obtain ⟨x, rfl⟩ := List.length_eq_one_iff.1 hA1
      exact symA_m Q x B T R hB0 hB (fun y hy => hlt x (by simp) y hy) (hra x (by simp)) hrb hb hR hok
    by_cases hB1 : B.length = 1
    · obtain ⟨x, rfl⟩ := List.length_eq_one_iff.1 hB1
      exact symB_m Q A x T R (by omega) hA (fun y hy => hlt y hy x (by simp)) (hrb x (by simp)) hra hb hR hok
    have IH := sym_m R hR hok N
    obtain ⟨p, hp⟩ : ∃ p, A.length = p := ⟨_, rfl⟩
    obtain ⟨q, hq⟩ : ∃ q, B.length = q := ⟨_, rfl⟩
    obtain ⟨a, ha⟩ : ∃ a, Q.length = a := ⟨_, rfl⟩
    obtain ⟨m, hm⟩ : ∃ m, a + p = m := ⟨_, rfl⟩
    obtain ⟨b, hbe⟩ : ∃ b, m + q = b := ⟨_, rfl⟩
    obtain ⟨H, hH⟩ : ∃ H, (p + q) / 2 = H := ⟨_, rfl⟩
    obtain ⟨mid, hmid⟩ : ∃ mid, a + H = mid := ⟨_, rfl⟩
    obtain ⟨n, hn⟩ : ∃ n, mid + m = n := ⟨_, rfl⟩
    obtain ⟨v, hv⟩ : ∃ v, v + 1 = n := ⟨n - 1, by omega⟩
    obtain ⟨lo, hi, hlh⟩ : ∃ lo hi, (H < p ∧ lo + q = H ∧ hi = H) ∨ (¬ H < p ∧ lo = 0 ∧ hi = p) := by
      by_cases h : H < p
      · exact ⟨H - q, H, .inl ⟨h, by omega, rfl⟩⟩
      · exact ⟨0, p, .inr ⟨h, rfl, rfl⟩⟩
    obtain ⟨Z, hZ⟩ : ∃ Z, srt (kf R) (A ++ B) = Z := ⟨_, rfl⟩
    rw [ha, hp, hq, hm, hbe, hZ]
    rw [hp] at hA0 hA1 hN; rw [hq] at hB0 hB1 hN
    have hma : (m : Int) - a = p := by omega
    have hbm : (b : Int) - m = q := by omega
    have hp1 : ¬ (p : Int) = 1 := by omega
    have hq1 : ¬ (q : Int) = 1 := by omega
    have hDl := r4_len Q A B T
    have hbb : b + T.length ≤ 100000 := by omega
    have hwE := w64 (x := (a : Int) + b) (by omega) (by omega)
    have hwM : IntKind.i64.wrap ((IntKind.u64.wrap ((a : Int) + b)).fdiv 2) = (mid : Int) := by
      rw [mid_eq a b (by omega)]; omega
    have hwn : (mid : Int) + m = n := by omega
    have hwn2 := w64 (x := (n : Int)) (by omega) (by omega)
    refine meansH_fn 3 220 [] Tryd.func75 rfl rfl rfl (by simp) (by decide) rfl fun X hX => ?_
    (repeat (first | refine awp_seq ?_ | refine awp_block ?_ | ((first | refine awp_runG [0, 1, 2, 3, 4, 10, 11, 12, 13, 14, 15, 16, 17, 18, 19, 20, 21, 22, 23, 24, 28, 33, 50, 58, 80, 85, 103, 110, 140, 151, 171, 185, 199, 213, 1000000, 1000001, 1000002] hX ?_ | refine awp_drawnG [0, 1, 2, 3, 4, 10, 11, 12, 13, 14, 15, 16, 17, 18, 19, 20, 21, 22, 23, 24, 28, 33, 50, 58, 80, 85, 103, 110, 140, 151, 171, 185, 199, 213, 1000000, 1000001, 1000002] hX mixed ?_ | refine awp_skip ?_ | refine awp_exit ?_); (simp [go_sem, hma, hA1, hp1]; (try simp (disch := omega) only [w64, td, tm]); try (refine ⟨by kernel_rfl, ?_⟩)))))
    try (simp [go_sem, hma, hA1, hp1]; try (refine ⟨by kernel_rfl, ?_⟩))
    refine awp_cond (b := false) (by simp [go_sem, hA1]; try omega) (fun h => by cases h) (fun _ => ?_)
    (repeat (first | refine awp_seq ?_ | refine awp_block ?_ | ((first | refine awp_runG [0, 1, 2, 3, 4, 10, 11, 12, 13, 14, 15, 16, 17, 18, 19, 20, 21, 22, 23, 24, 28, 33, 50, 58, 80, 85, 103, 110, 140, 151, 171, 185, 199, 213, 1000000, 1000001, 1000002] hX ?_ | refine awp_drawnG [0, 1, 2, 3, 4, 10, 11, 12, 13, 14, 15, 16, 17, 18, 19, 20, 21, 22, 23, 24, 28, 33, 50, 58, 80, 85, 103, 110, 140, 151, 171, 185, 199, 213, 1000000, 1000001, 1000002] hX mixed ?_ | refine awp_skip ?_ | refine awp_exit ?_); (simp [go_sem, hbm, hB1, hq1]; (try simp (disch := omega) only [w64, td, tm]); try (refine ⟨by kernel_rfl, ?_⟩)))))
    try (simp [go_sem, hbm, hB1, hq1]; try (refine ⟨by kernel_rfl, ?_⟩))
    refine awp_cond (b := false) (by simp [go_sem, hB1]; try omega) (fun h => by cases h) (fun _ => ?_)
    (repeat (first | refine awp_seq ?_ | refine awp_block ?_ | ((first | refine awp_runG [0, 1, 2, 3, 4, 10, 11, 12, 13, 14, 15, 16, 17, 18, 19, 20, 21, 22, 23, 24, 28, 33, 50, 58, 80, 85, 103, 110, 140, 151, 171, 185, 199, 213, 1000000, 1000001, 1000002] hX ?_ | refine awp_drawnG [0, 1, 2, 3, 4, 10, 11, 12, 13, 14, 15, 16, 17, 18, 19, 20, 21, 22, 23, 24, 28, 33, 50, 58, 80, 85, 103, 110, 140, 151, 171, 185, 199, 213, 1000000, 1000001, 1000002] hX mixed ?_ | refine awp_skip ?_ | refine awp_exit ?_); (simp [go_sem, hwE, hwM, hwn, hwn2]; try (refine ⟨by kernel_rfl, ?_⟩)))))
    refine awp_cut ⟨mkE [(0, .ow 0), (1, ii a), (2, ii m), (3, ii b), (4, clo), (18, ii mid), (19, ii n), (20, ii (a + lo : Nat)), (21, ii (a + hi : Nat)), (1000000, .ow 0), (1000001, .ow 1), (1000002, .ow 2)], sH (r4 (Q, A, B, T)) R⟩ ?_ ?_
    · (repeat (first | refine awp_seq ?_ | refine awp_block ?_ | ((first | refine awp_runG [0, 1, 2, 3, 4, 10, 11, 12, 13, 14, 15, 16, 17, 18, 19, 20, 21, 22, 23, 24, 28, 33, 50, 58, 80, 85, 103, 110, 140, 151, 171, 185, 199, 213, 1000000, 1000001, 1000002] hX ?_ | refine awp_drawnG [0, 1, 2, 3, 4, 10, 11, 12, 13, 14, 15, 16, 17, 18, 19, 20, 21, 22, 23, 24, 28, 33, 50, 58, 80, 85, 103, 110, 140, 151, 171, 185, 199, 213, 1000000, 1000001, 1000002] hX mixed ?_ | refine awp_skip ?_ | refine awp_exit ?_); (simp [go_sem]; try (refine ⟨by kernel_rfl, ?_⟩)))))
      refine awp_cond (b := decide (H < p)) (by simp [go_sem]; try omega) (fun hc => ?_) (fun hc => ?_)
      · simp at hc
        obtain ⟨e1, e2⟩ : lo + q = H ∧ hi = H := by omega
        have hw1 : IntKind.i64.wrap ((n : Int) - b) = ((a + lo : Nat) : Int) := by rw [w64 (by omega) (by omega)]; omega
        have hw2 : (mid : Int) = ((a + hi : Nat) : Int) := by omega
        (repeat (first | refine awp_seq ?_ | refine awp_block ?_ | ((first | refine awp_runG [0, 1, 2, 3, 4, 10, 11, 12, 13, 14, 15, 16, 17, 18, 19, 20, 21, 22, 23, 24, 28, 33, 50, 58, 80, 85, 103, 110, 140, 151, 171, 185, 199, 213, 1000000, 1000001, 1000002] hX ?_ | refine awp_drawnG [0, 1, 2, 3, 4, 10, 11, 12, 13, 14, 15, 16, 17, 18, 19, 20, 21, 22, 23, 24, 28, 33, 50, 58, 80, 85, 103, 110, 140, 151, 171, 185, 199, 213, 1000000, 1000001, 1000002] hX mixed ?_ | refine awp_skip ?_ | refine awp_exit ?_); (simp [go_sem, hw1]; try (refine ⟨by kernel_rfl, ?_⟩)))))
        refine sub_of _ [.old 0 ⟨3, 1, (r4 (Q, A, B, T)).map ii⟩, .old 1 ⟨25, 1, [.ow 2]⟩, .old 2 ⟨3, 1, R.map ii⟩] (by simp [go_sem]) ?_
        simp [go_sem]
        try omega
      · simp at hc
        obtain ⟨e1, e2⟩ : lo = 0 ∧ hi = p := by omega
        (repeat (first | refine awp_seq ?_ | refine awp_block ?_ | ((first | refine awp_runG [0, 1, 2, 3, 4, 10, 11, 12, 13, 14, 15, 16, 17, 18, 19, 20, 21, 22, 23, 24, 28, 33, 50, 58, 80, 85, 103, 110, 140, 151, 171, 185, 199, 213, 1000000, 1000001, 1000002] hX ?_ | refine awp_drawnG [0, 1, 2, 3, 4, 10, 11, 12, 13, 14, 15, 16, 17, 18, 19, 20, 21, 22, 23, 24, 28, 33, 50, 58, 80, 85, 103, 110, 140, 151, 171, 185, 199, 213, 1000000, 1000001, 1000002] hX mixed ?_ | refine awp_skip ?_ | refine awp_exit ?_); (simp [go_sem]; try (refine ⟨by kernel_rfl, ?_⟩)))))
        refine sub_of _ [.old 0 ⟨3, 1, (r4 (Q, A, B, T)).map ii⟩, .old 1 ⟨25, 1, [.ow 2]⟩, .old 2 ⟨3, 1, R.map ii⟩] (by simp [go_sem]) ?_
        simp [go_sem]
        try omega
    have hnv : IntKind.i64.wrap ((n : Int) - 1) = (v : Int) := by rw [w64 (by omega) (by omega)]; omega
    (repeat (first | refine awp_seq ?_ | refine awp_block ?_ | ((first | refine awp_runG [0, 1, 2, 3, 4, 10, 11, 12, 13, 14, 15, 16, 17, 18, 19, 20, 21, 22, 23, 24, 28, 33, 50, 58, 80, 85, 103, 110, 140, 151, 171, 185, 199, 213, 1000000, 1000001, 1000002] hX ?_ | refine awp_drawnG [0, 1, 2, 3, 4, 10, 11, 12, 13, 14, 15, 16, 17, 18, 19, 20, 21, 22, 23, 24, 28, 33, 50, 58, 80, 85, 103, 110, 140, 151, 171, 185, 199, 213, 1000000, 1000001, 1000002] hX mixed ?_ | refine awp_skip ?_ | refine awp_exit ?_); (simp [go_sem, hnv]; try (refine ⟨by kernel_rfl, ?_⟩)))))
    refine awp_loop (fun z : Nat × Nat => ⟨mkE [(0, .ow 0), (1, ii a), (2, ii m), (3, ii b), (4, clo), (18, ii mid), (19, ii n), (20, ii (a + z.1 : Nat)), (21, ii (a + z.2 : Nat)), (22, ii v), (1000000, .ow 0), (1000001, .ow 1), (1000002, .ow 2)], sH (r4 (Q, A, B, T)) R⟩)
      (fun z => lo ≤ z.1 ∧ z.1 ≤ z.2 ∧ z.2 ≤ hi ∧ (lo < z.1 → bef (kf R) (A.getD (z.1 - 1) 0) (B.getD (H - z.1) 0)) ∧ (z.2 < hi → bef (kf R) (B.getD (H - 1 - z.2) 0) (A.getD z.2 0))) (fun z => z.2 - z.1) (lo, hi) ?_ ?_ ?_
    · refine sub_of _ [.old 0 ⟨3, 1, (r4 (Q, A, B, T)).map ii⟩, .old 1 ⟨25, 1, [.ow 2]⟩, .old 2 ⟨3, 1, R.map ii⟩] (by simp [go_sem]) ?_
      simp [go_sem]
    · refine ⟨Nat.le_refl _, ?_, Nat.le_refl _, fun h => absurd h (Nat.lt_irrefl _), fun h => absurd h (Nat.lt_irrefl _)⟩
      simp only []; omega
    · rintro ⟨s, r⟩ ⟨g1, g2, g3, g4, g5⟩
      simp only [] at g1 g2 g3 g4 g5
      (repeat (first | refine awp_seq ?_ | refine awp_block ?_ | ((first | refine awp_runG [0, 1, 2, 3, 4, 10, 11, 12, 13, 14, 15, 16, 17, 18, 19, 20, 21, 22, 23, 24, 28, 33, 50, 58, 80, 85, 103, 110, 140, 151, 171, 185, 199, 213, 1000000, 1000001, 1000002] hX ?_ | refine awp_drawnG [0, 1, 2, 3, 4, 10, 11, 12, 13, 14, 15, 16, 17, 18, 19, 20, 21, 22, 23, 24, 28, 33, 50, 58, 80, 85, 103, 110, 140, 151, 171, 185, 199, 213, 1000000, 1000001, 1000002] hX mixed ?_ | refine awp_skip ?_ | refine awp_exit ?_); (simp [go_sem]; try (refine ⟨by kernel_rfl, ?_⟩)))))
      refine awp_cond (b := decide (s < r)) (by simp [go_sem]; try omega) (fun hc => ?_) (fun hc => ?_)
      · simp at hc
        obtain ⟨c, hce⟩ : ∃ c, (s + r) / 2 = c := ⟨_, rfl⟩
        obtain ⟨P, hPe⟩ : ∃ P, a + c = P := ⟨_, rfl⟩
        obtain ⟨f, hf⟩ : ∃ f, H - 1 - c = f := ⟨_, rfl⟩
        obtain ⟨P1, hP1e⟩ : ∃ P1, m + f = P1 := ⟨_, rfl⟩
        have hcA : c < A.length := by omega
        have hfB : f < B.length := by omega
        have hwF := w64 (x := (a : Int) + s + (a + r)) (by omega) (by omega)
        have hP : IntKind.i64.wrap ((IntKind.u64.wrap ((a : Int) + s + (a + r))).fdiv 2) = (P : Int) := by
          have := mid_eq (a + s) (a + r) (by omega)
          simp only [Int.natCast_add] at this
          rw [this]; omega
        have hvP : (v : Int) - P = P1 := by omega
        have hwP1 := w64 (x := (P1 : Int)) (by omega) (by omega)
        have hPl : P < (r4 (Q, A, B, T)).length := by omega
        have hP1l : P1 < (r4 (Q, A, B, T)).length := by omega
        have hPv : (r4 (Q, A, B, T))[P] = A[c] := by
          have := r4_A (Q := Q) (B := B) (T := T) hcA (by omega)
          rw [← this]; congr 1; omega
        have hP1v : (r4 (Q, A, B, T))[P1] = B[f] := by
          have := r4_B (Q := Q) (A := A) (T := T) hfB (by omega)
          rw [← this]; congr 1; omega
        have hxr := hra A[c] (List.getElem_mem hcA)
        have hyr := hrb B[f] (List.getElem_mem hfB)
        have hxy := hlt A[c] (List.getElem_mem hcA) B[f] (List.getElem_mem hfB)
        have gA : A[c]?.getD 0 = A[c] := by rw [List.getElem?_eq_getElem hcA]; rfl
        have gB : B[f]?.getD 0 = B[f] := by rw [List.getElem?_eq_getElem hfB]; rfl
        have hcm := clo_m R hok B[f] A[c] hyr hxr
        have hneg := cmp_neg R B[f] A[c]
        have hbef : bef (kf R) B[f] A[c] ↔ cmpC R B[f] A[c] < 0 := by rw [hneg]; unfold bef; omega
        have hbef2 : ¬ bef (kf R) B[f] A[c] → bef (kf R) A[c] B[f] := fun q => (bef_total (by omega)).resolve_left q
        obtain ⟨x, hx⟩ : ∃ x, A[c] = x := ⟨_, rfl⟩
        obtain ⟨y, hy⟩ : ∃ y, B[f] = y := ⟨_, rfl⟩
        rw [hx] at hPv hcm hbef hbef2 gA
        rw [hy] at hP1v hcm hbef hbef2 gB
        generalize r4 (Q, A, B, T) = D at *
        (repeat (first | refine awp_seq ?_ | refine awp_block ?_ | ((first | refine awp_runG [0, 1, 2, 3, 4, 10, 11, 12, 13, 14, 15, 16, 17, 18, 19, 20, 21, 22, 23, 24, 28, 33, 50, 58, 80, 85, 103, 110, 140, 151, 171, 185, 199, 213, 1000000, 1000001, 1000002] hX ?_ | refine awp_drawnG [0, 1, 2, 3, 4, 10, 11, 12, 13, 14, 15, 16, 17, 18, 19, 20, 21, 22, 23, 24, 28, 33, 50, 58, 80, 85, 103, 110, 140, 151, 171, 185, 199, 213, 1000000, 1000001, 1000002] hX mixed ?_ | refine awp_skip ?_ | refine awp_exit ?_); (simp [go_sem, hwF, hP, hvP, hwP1, hPl, hP1l, hPv, hP1v]; try (refine ⟨by kernel_rfl, ?_⟩)))))
        (repeat refine And.intro (by first | omega | (unfold maxLen; omega) | kernel_rfl | (refine ⟨by first | omega | (unfold maxLen; omega), by first | omega | (unfold maxLen; omega)⟩) | grind) ?_)
        try (simp [go_sem, hwF, hP, hvP, hwP1, hPl, hP1l, hPv, hP1v]; try (refine ⟨by kernel_rfl, ?_⟩))
        first | refine callH_intro [1, 2] (hcm) (by simp [go_sem]) ?_ | refine callTQ_intro [1, 2] (hcm) (by simp [go_sem]) ?_ | refine callTE_intro [1, 2] (hcm) (by simp [go_sem]) ?_
        try (simp [go_sem, hwF, hP, hvP, hwP1, hPl, hP1l, hPv, hP1v]; try (refine ⟨by kernel_rfl, ?_⟩))
        refine awp_cond (b := !decide (cmpC R y x < 0)) (by simp [go_sem]; try omega) (fun hd => ?_) (fun hd => ?_)
        · have hd : ¬ cmpC R y x < 0 := by simpa using hd
          (repeat (first | refine awp_seq ?_ | refine awp_block ?_ | ((first | refine awp_runG [0, 1, 2, 3, 4, 10, 11, 12, 13, 14, 15, 16, 17, 18, 19, 20, 21, 22, 23, 24, 28, 33, 50, 58, 80, 85, 103, 110, 140, 151, 171, 185, 199, 213, 1000000, 1000001, 1000002] hX ?_ | refine awp_drawnG [0, 1, 2, 3, 4, 10, 11, 12, 13, 14, 15, 16, 17, 18, 19, 20, 21, 22, 23, 24, 28, 33, 50, 58, 80, 85, 103, 110, 140, 151, 171, 185, 199, 213, 1000000, 1000001, 1000002] hX mixed ?_ | refine awp_skip ?_ | refine awp_exit ?_); (simp [go_sem]; (try simp (disch := omega) only [w64, td, tm]); try (refine ⟨by kernel_rfl, ?_⟩)))))
          refine ⟨c + 1, r, ⟨by omega, by omega, g3, fun _ => ?_, g5⟩, by omega, ?_⟩
          · rw [show c + 1 - 1 = c by omega, show H - (c + 1) = f by omega, gA, gB]
            exact hbef2 fun q => hd (hbef.1 q)
          refine sub_of _ [.old 0 ⟨3, 1, D.map ii⟩, .old 1 ⟨25, 1, [.ow 2]⟩, .old 2 ⟨3, 1, R.map ii⟩] (by simp [go_sem]) ?_
          simp [go_sem]
          try omega
        · have hd : cmpC R y x < 0 := by simpa using hd
          (repeat (first | refine awp_seq ?_ | refine awp_block ?_ | ((first | refine awp_runG [0, 1, 2, 3, 4, 10, 11, 12, 13, 14, 15, 16, 17, 18, 19, 20, 21, 22, 23, 24, 28, 33, 50, 58, 80, 85, 103, 110, 140, 151, 171, 185, 199, 213, 1000000, 1000001, 1000002] hX ?_ | refine awp_drawnG [0, 1, 2, 3, 4, 10, 11, 12, 13, 14, 15, 16, 17, 18, 19, 20, 21, 22, 23, 24, 28, 33, 50, 58, 80, 85, 103, 110, 140, 151, 171, 185, 199, 213, 1000000, 1000001, 1000002] hX mixed ?_ | refine awp_skip ?_ | refine awp_exit ?_); (simp [go_sem]; (try simp (disch := omega) only [w64, td, tm]); try (refine ⟨by kernel_rfl, ?_⟩)))))
          refine ⟨s, c, ⟨g1, by omega, by omega, g4, fun _ => ?_⟩, by omega, ?_⟩
          · rw [hf, gA, gB]; exact hbef.2 hd
          refine sub_of _ [.old 0 ⟨3, 1, D.map ii⟩, .old 1 ⟨25, 1, [.ow 2]⟩, .old 2 ⟨3, 1, R.map ii⟩] (by simp [go_sem]) ?_
          simp [go_sem]
          try omega
      · have hsr : s = r := by simp at hc; omega
        subst hsr
        obtain ⟨e, he⟩ : ∃ e, H - s = e := ⟨_, rfl⟩
        obtain ⟨E2, hE2⟩ : ∃ E2, m + e = E2 := ⟨_, rfl⟩
        have hwE2 : IntKind.i64.wrap ((n : Int) - (a + s)) = (E2 : Int) := by rw [w64 (by omega) (by omega)]; omega
        have k1 : ∀ x ∈ A.take s, ∀ y ∈ B.drop e, bef (kf R) x y := pw_take hA hB (by
          rcases Nat.lt_or_ge lo s with hl | hl
          · rcases Nat.lt_or_ge e B.length with h2 | h2
            · have h1 : s - 1 < A.length := by omega
              have := g4 hl
              rw [he, getD_lt h1, getD_lt h2] at this
              exact .inr (.inr ⟨h1, h2, this⟩)
            · exact .inr (.inl h2)
          · omega)
        have k2 : ∀ x ∈ B.take e, ∀ y ∈ A.drop s, bef (kf R) x y := pw_take hB hA (by
          rcases Nat.lt_or_ge s hi with hl | hl
          · have h1 : e - 1 < B.length := by omega
            have h2 : s < A.length := by omega
            have := g5 hl
            rw [show H - 1 - s = e - 1 by omega, getD_lt h1, getD_lt h2] at this
            exact .inr (.inr ⟨h1, h2, this⟩)
          · omega)
        have l1 : (A.take s).length = s := by rw [List.length_take]; omega
        have l2 : (A.drop s).length = p - s := by rw [List.length_drop]; omega
        have l3 : (B.take e).length = e := by rw [List.length_take]; omega
        have l4 : (B.drop e).length = q - e := by rw [List.length_drop]; omega
        have hAa := List.take_append_drop s A
        have hBb := List.take_append_drop e B
        have mA1 : ∀ x ∈ A.take s, x ∈ A := fun x hx => List.mem_of_mem_take hx
        have mA2 : ∀ x ∈ A.drop s, x ∈ A := fun x hx => List.mem_of_mem_drop hx
        have mB1 : ∀ x ∈ B.take e, x ∈ B := fun x hx => List.mem_of_mem_take hx
        have mB2 : ∀ x ∈ B.drop e, x ∈ B := fun x hx => List.mem_of_mem_drop hx
        have hnd : (A ++ B).Nodup := by
          rw [List.nodup_append]
          exact ⟨hA.imp fun h e => by subst e; exact bef_irr h, hB.imp fun h e => by subst e; exact bef_irr h, fun x hx y hy e => by have := hlt x hx y hy; omega⟩
        generalize A.take s = A1 at *
        generalize A.drop s = A2 at *
        generalize B.take e = B1 at *
        generalize B.drop e = B2 at *
        subst hAa
        subst hBb
        have hfin := srt_parts (.refl _) hA hB hnd k1 k2
        rw [List.pairwise_append] at hA hB
        obtain ⟨S1, hS1⟩ : ∃ S1, srt (kf R) (A1 ++ B1) = S1 := ⟨_, rfl⟩
        have hS1l : S1.length = H := by rw [← hS1, srt_len, List.length_append]; omega
        obtain ⟨W, hW⟩ : ∃ W, A2 ++ B2 ++ T = W := ⟨_, rfl⟩
        have hWl : W.length = A2.length + B2.length + T.length := by rw [← hW]; simp; omega
        have q0 : r4 (Q, A1 ++ A2, B1 ++ B2, T) = r4 (Q ++ A1, A2, B1, B2 ++ T) := by simp [r4]
        have q1 : r4 (Q ++ A1, B1, A2, B2 ++ T) = r4 (Q, A1, B1, W) := by rw [← hW]; simp [r4]
        have q2 : r3 Q S1 W = r4 (Q ++ S1, A2, B2, T) := by rw [← hW]; simp [r3, r4]
        have q3 : r3 (Q ++ S1) (srt (kf R) (A2 ++ B2)) T = r3 Q Z T := by rw [← hZ, ← hfin, ← hS1]; simp [r3]
        (repeat (first | refine awp_seq ?_ | refine awp_block ?_ | ((first | refine awp_runG [0, 1, 2, 3, 4, 10, 11, 12, 13, 14, 15, 16, 17, 18, 19, 20, 21, 22, 23, 24, 28, 33, 50, 58, 80, 85, 103, 110, 140, 151, 171, 185, 199, 213, 1000000, 1000001, 1000002] hX ?_ | refine awp_drawnG [0, 1, 2, 3, 4, 10, 11, 12, 13, 14, 15, 16, 17, 18, 19, 20, 21, 22, 23, 24, 28, 33, 50, 58, 80, 85, 103, 110, 140, 151, 171, 185, 199, 213, 1000000, 1000001, 1000002] hX mixed ?_ | refine awp_skip ?_ | refine awp_exit ?_); (simp [go_sem, hwE2]; (try simp (disch := omega) only [w64, td, tm]); try (refine ⟨by kernel_rfl, ?_⟩)))))
        try (simp [go_sem, hwE2]; try (refine ⟨by kernel_rfl, ?_⟩))
        refine awp_cut ⟨mkE [(0, .ow 0), (1, ii a), (3, ii b), (4, clo), (18, ii mid), (20, ii (a + s : Nat)), (24, ii E2), (1000000, .ow 0), (1000001, .ow 1), (1000002, .ow 2)], sH (r4 (Q, A1, B1, W)) R⟩ ?_ ?_
        · (repeat (first | refine awp_seq ?_ | refine awp_block ?_ | ((first | refine awp_runG [0, 1, 2, 3, 4, 10, 11, 12, 13, 14, 15, 16, 17, 18, 19, 20, 21, 22, 23, 24, 28, 33, 50, 58, 80, 85, 103, 110, 140, 151, 171, 185, 199, 213, 1000000, 1000001, 1000002] hX ?_ | refine awp_drawnG [0, 1, 2, 3, 4, 10, 11, 12, 13, 14, 15, 16, 17, 18, 19, 20, 21, 22, 23, 24, 28, 33, 50, 58, 80, 85, 103, 110, 140, 151, 171, 185, 199, 213, 1000000, 1000001, 1000002] hX mixed ?_ | refine awp_skip ?_ | refine awp_exit ?_); (simp [go_sem]; try (refine ⟨by kernel_rfl, ?_⟩)))))
          refine awp_cond (b := decide (s < p) && decide (0 < e)) (by simp [go_sem]; first | done | (rw [Bool.eq_iff_iff]; simp; omega)) (fun hd => ?_) (fun hd => ?_)
          · simp at hd
            have hrot := rot_m (Q ++ A1) A2 B1 (B2 ++ T) R (by omega) (by omega) (by simp; omega) hR
            rw [← q0, q1, show (Q ++ A1).length = a + s by simp; omega, show a + s + A2.length = m by omega, show m + B1.length = E2 by omega] at hrot
            (repeat (first | refine awp_seq ?_ | refine awp_block ?_ | ((first | refine awp_runG [0, 1, 2, 3, 4, 10, 11, 12, 13, 14, 15, 16, 17, 18, 19, 20, 21, 22, 23, 24, 28, 33, 50, 58, 80, 85, 103, 110, 140, 151, 171, 185, 199, 213, 1000000, 1000001, 1000002] hX ?_ | refine awp_drawnG [0, 1, 2, 3, 4, 10, 11, 12, 13, 14, 15, 16, 17, 18, 19, 20, 21, 22, 23, 24, 28, 33, 50, 58, 80, 85, 103, 110, 140, 151, 171, 185, 199, 213, 1000000, 1000001, 1000002] hX mixed ?_ | refine awp_skip ?_ | refine awp_exit ?_); (simp [go_sem]; try (refine ⟨by kernel_rfl, ?_⟩)))))
            first | refine callH_intro [0, 1, 2] (hrot) (by simp [go_sem]) ?_ | refine callTQ_intro [0, 1, 2] (hrot) (by simp [go_sem]) ?_ | refine callTE_intro [0, 1, 2] (hrot) (by simp [go_sem]) ?_
            try (simp [go_sem]; try (refine ⟨by kernel_rfl, ?_⟩))
            (repeat (first | refine awp_seq ?_ | refine awp_block ?_ | ((first | refine awp_runG [0, 1, 2, 3, 4, 10, 11, 12, 13, 14, 15, 16, 17, 18, 19, 20, 21, 22, 23, 24, 28, 33, 50, 58, 80, 85, 103, 110, 140, 151, 171, 185, 199, 213, 1000000, 1000001, 1000002] hX ?_ | refine awp_drawnG [0, 1, 2, 3, 4, 10, 11, 12, 13, 14, 15, 16, 17, 18, 19, 20, 21, 22, 23, 24, 28, 33, 50, 58, 80, 85, 103, 110, 140, 151, 171, 185, 199, 213, 1000000, 1000001, 1000002] hX mixed ?_ | refine awp_skip ?_ | refine awp_exit ?_); (simp [go_sem]; try (refine ⟨by kernel_rfl, ?_⟩)))))
            refine sub_of _ [.old 0 ⟨3, 1, (r4 (Q, A1, B1, W)).map ii⟩, .old 1 ⟨25, 1, [.ow 2]⟩, .old 2 ⟨3, 1, R.map ii⟩] (by simp [go_sem]) ?_
            simp [go_sem]
          · have hne : r4 (Q, A1 ++ A2, B1 ++ B2, T) = r4 (Q, A1, B1, W) := by
              rw [q0, ← q1]
              have : A2 = [] ∨ B1 = [] := by
                simp at hd
                rcases Nat.lt_or_ge s p with h | h
                · exact .inr (List.length_eq_zero_iff.1 (by omega))
                · exact .inl (List.length_eq_zero_iff.1 (by omega))
              rcases this with e0 | e0 <;> rw [e0] <;> simp [r4]
            rw [hne]
            (repeat (first | refine awp_seq ?_ | refine awp_block ?_ | ((first | refine awp_runG [0, 1, 2, 3, 4, 10, 11, 12, 13, 14, 15, 16, 17, 18, 19, 20, 21, 22, 23, 24, 28, 33, 50, 58, 80, 85, 103, 110, 140, 151, 171, 185, 199, 213, 1000000, 1000001, 1000002] hX ?_ | refine awp_drawnG [0, 1, 2, 3, 4, 10, 11, 12, 13, 14, 15, 16, 17, 18, 19, 20, 21, 22, 23, 24, 28, 33, 50, 58, 80, 85, 103, 110, 140, 151, 171, 185, 199, 213, 1000000, 1000001, 1000002] hX mixed ?_ | refine awp_skip ?_ | refine awp_exit ?_); (simp [go_sem]; try (refine ⟨by kernel_rfl, ?_⟩)))))
            refine sub_of _ [.old 0 ⟨3, 1, (r4 (Q, A1, B1, W)).map ii⟩, .old 1 ⟨25, 1, [.ow 2]⟩, .old 2 ⟨3, 1, R.map ii⟩] (by simp [go_sem]) ?_
            simp [go_sem]
        (repeat (first | refine awp_seq ?_ | refine awp_block ?_ | ((first | refine awp_runG [0, 1, 2, 3, 4, 10, 11, 12, 13, 14, 15, 16, 17, 18, 19, 20, 21, 22, 23, 24, 28, 33, 50, 58, 80, 85, 103, 110, 140, 151, 171, 185, 199, 213, 1000000, 1000001, 1000002] hX ?_ | refine awp_drawnG [0, 1, 2, 3, 4, 10, 11, 12, 13, 14, 15, 16, 17, 18, 19, 20, 21, 22, 23, 24, 28, 33, 50, 58, 80, 85, 103, 110, 140, 151, 171, 185, 199, 213, 1000000, 1000001, 1000002] hX mixed ?_ | refine awp_skip ?_ | refine awp_exit ?_); (simp [go_sem]; try (refine ⟨by kernel_rfl, ?_⟩)))))
        refine awp_cut ⟨mkE [(0, .ow 0), (3, ii b), (4, clo), (18, ii mid), (24, ii E2), (1000000, .ow 0), (1000001, .ow 1), (1000002, .ow 2)], sH (r3 Q S1 W) R⟩ ?_ ?_
        · (repeat (first | refine awp_seq ?_ | refine awp_block ?_ | ((first | refine awp_runG [0, 1, 2, 3, 4, 10, 11, 12, 13, 14, 15, 16, 17, 18, 19, 20, 21, 22, 23, 24, 28, 33, 50, 58, 80, 85, 103, 110, 140, 151, 171, 185, 199, 213, 1000000, 1000001, 1000002] hX ?_ | refine awp_drawnG [0, 1, 2, 3, 4, 10, 11, 12, 13, 14, 15, 16, 17, 18, 19, 20, 21, 22, 23, 24, 28, 33, 50, 58, 80, 85, 103, 110, 140, 151, 171, 185, 199, 213, 1000000, 1000001, 1000002] hX mixed ?_ | refine awp_skip ?_ | refine awp_exit ?_); (simp [go_sem]; try (refine ⟨by kernel_rfl, ?_⟩)))))
          refine awp_cond (b := decide (0 < s) && decide (s < H)) (by simp [go_sem]; first | done | (rw [Bool.eq_iff_iff]; simp; omega)) (fun hd => ?_) (fun hd => ?_)
          · simp at hd
            have hrec := IH Q A1 B1 W (by omega) (by omega) (by omega) hA.1 hB.1 (fun x hx y hy => hlt x (mA1 x hx) y (mB1 y hy)) (fun x hx => hra x (mA1 x hx)) (fun x hx => hrb x (mB1 x hx)) (by omega)
            rw [hS1, ha, show a + A1.length = a + s by omega, show a + s + B1.length = mid by omega] at hrec
            (repeat (first | refine awp_seq ?_ | refine awp_block ?_ | ((first | refine awp_runG [0, 1, 2, 3, 4, 10, 11, 12, 13, 14, 15, 16, 17, 18, 19, 20, 21, 22, 23, 24, 28, 33, 50, 58, 80, 85, 103, 110, 140, 151, 171, 185, 199, 213, 1000000, 1000001, 1000002] hX ?_ | refine awp_drawnG [0, 1, 2, 3, 4, 10, 11, 12, 13, 14, 15, 16, 17, 18, 19, 20, 21, 22, 23, 24, 28, 33, 50, 58, 80, 85, 103, 110, 140, 151, 171, 185, 199, 213, 1000000, 1000001, 1000002] hX mixed ?_ | refine awp_skip ?_ | refine awp_exit ?_); (simp [go_sem]; try (refine ⟨by kernel_rfl, ?_⟩)))))
            first | refine callH_intro [0, 1, 2] (hrec) (by simp [go_sem]) ?_ | refine callTQ_intro [0, 1, 2] (hrec) (by simp [go_sem]) ?_ | refine callTE_intro [0, 1, 2] (hrec) (by simp [go_sem]) ?_
            try (simp [go_sem]; try (refine ⟨by kernel_rfl, ?_⟩))
            (repeat (first | refine awp_seq ?_ | refine awp_block ?_ | ((first | refine awp_runG [0, 1, 2, 3, 4, 10, 11, 12, 13, 14, 15, 16, 17, 18, 19, 20, 21, 22, 23, 24, 28, 33, 50, 58, 80, 85, 103, 110, 140, 151, 171, 185, 199, 213, 1000000, 1000001, 1000002] hX ?_ | refine awp_drawnG [0, 1, 2, 3, 4, 10, 11, 12, 13, 14, 15, 16, 17, 18, 19, 20, 21, 22, 23, 24, 28, 33, 50, 58, 80, 85, 103, 110, 140, 151, 171, 185, 199, 213, 1000000, 1000001, 1000002] hX mixed ?_ | refine awp_skip ?_ | refine awp_exit ?_); (simp [go_sem]; try (refine ⟨by kernel_rfl, ?_⟩)))))
            refine sub_of _ [.old 0 ⟨3, 1, (r3 Q S1 W).map ii⟩, .old 1 ⟨25, 1, [.ow 2]⟩, .old 2 ⟨3, 1, R.map ii⟩] (by simp [go_sem]) ?_
            simp [go_sem]
          · have hne : r4 (Q, A1, B1, W) = r3 Q S1 W := by
              have : A1 = [] ∨ B1 = [] := by
                simp at hd
                rcases Nat.eq_zero_or_pos s with h | h
                · exact .inl (List.length_eq_zero_iff.1 (by omega))
                · exact .inr (List.length_eq_zero_iff.1 (by omega))
              rw [← hS1]
              rcases this with e0 | e0
              · rw [e0, List.nil_append, srt_of hB.1]; simp [r3, r4]
              · rw [e0, List.append_nil, srt_of hA.1]; simp [r3, r4]
            rw [hne]
            (repeat (first | refine awp_seq ?_ | refine awp_block ?_ | ((first | refine awp_runG [0, 1, 2, 3, 4, 10, 11, 12, 13, 14, 15, 16, 17, 18, 19, 20, 21, 22, 23, 24, 28, 33, 50, 58, 80, 85, 103, 110, 140, 151, 171, 185, 199, 213, 1000000, 1000001, 1000002] hX ?_ | refine awp_drawnG [0, 1, 2, 3, 4, 10, 11, 12, 13, 14, 15, 16, 17, 18, 19, 20, 21, 22, 23, 24, 28, 33, 50, 58, 80, 85, 103, 110, 140, 151, 171, 185, 199, 213, 1000000, 1000001, 1000002] hX mixed ?_ | refine awp_skip ?_ | refine awp_exit ?_); (simp [go_sem]; try (refine ⟨by kernel_rfl, ?_⟩)))))
            refine sub_of _ [.old 0 ⟨3, 1, (r3 Q S1 W).map ii⟩, .old 1 ⟨25, 1, [.ow 2]⟩, .old 2 ⟨3, 1, R.map ii⟩] (by simp [go_sem]) ?_
            simp [go_sem]
        (repeat (first | refine awp_seq ?_ | refine awp_block ?_ | ((first | refine awp_runG [0, 1, 2, 3, 4, 10, 11, 12, 13, 14, 15, 16, 17, 18, 19, 20, 21, 22, 23, 24, 28, 33, 50, 58, 80, 85, 103, 110, 140, 151, 171, 185, 199, 213, 1000000, 1000001, 1000002] hX ?_ | refine awp_drawnG [0, 1, 2, 3, 4, 10, 11, 12, 13, 14, 15, 16, 17, 18, 19, 20, 21, 22, 23, 24, 28, 33, 50, 58, 80, 85, 103, 110, 140, 151, 171, 185, 199, 213, 1000000, 1000001, 1000002] hX mixed ?_ | refine awp_skip ?_ | refine awp_exit ?_); (simp [go_sem]; try (refine ⟨by kernel_rfl, ?_⟩)))))
        refine awp_cond (b := decide (s < p) && decide (e < q)) (by simp [go_sem]; first | done | (rw [Bool.eq_iff_iff]; simp; omega)) (fun hd => ?_) (fun hd => ?_)
        · simp at hd
          have hrec := IH (Q ++ S1) A2 B2 T (by omega) (by omega) (by omega) hA.2.1 hB.2.1 (fun x hx y hy => hlt x (mA2 x hx) y (mB2 y hy)) (fun x hx => hra x (mA2 x hx)) (fun x hx => hrb x (mB2 x hx)) (by simp; omega)
          rw [← q2, q3, show (Q ++ S1).length = mid by simp; omega, show mid + A2.length = E2 by omega, show E2 + B2.length = b by omega] at hrec
          (repeat (first | refine awp_seq ?_ | refine awp_block ?_ | ((first | refine awp_runG [0, 1, 2, 3, 4, 10, 11, 12, 13, 14, 15, 16, 17, 18, 19, 20, 21, 22, 23, 24, 28, 33, 50, 58, 80, 85, 103, 110, 140, 151, 171, 185, 199, 213, 1000000, 1000001, 1000002] hX ?_ | refine awp_drawnG [0, 1, 2, 3, 4, 10, 11, 12, 13, 14, 15, 16, 17, 18, 19, 20, 21, 22, 23, 24, 28, 33, 50, 58, 80, 85, 103, 110, 140, 151, 171, 185, 199, 213, 1000000, 1000001, 1000002] hX mixed ?_ | refine awp_skip ?_ | refine awp_exit ?_); (simp [go_sem]; try (refine ⟨by kernel_rfl, ?_⟩)))))
          first | refine callH_intro [0, 1, 2] (hrec) (by simp [go_sem]) ?_ | refine callTQ_intro [0, 1, 2] (hrec) (by simp [go_sem]) ?_ | refine callTE_intro [0, 1, 2] (hrec) (by simp [go_sem]) ?_
          try (simp [go_sem]; try (refine ⟨by kernel_rfl, ?_⟩))
          (repeat (first | refine awp_seq ?_ | refine awp_block ?_ | ((first | refine awp_runG [0, 1, 2, 3, 4, 10, 11, 12, 13, 14, 15, 16, 17, 18, 19, 20, 21, 22, 23, 24, 28, 33, 50, 58, 80, 85, 103, 110, 140, 151, 171, 185, 199, 213, 1000000, 1000001, 1000002] hX ?_ | refine awp_drawnG [0, 1, 2, 3, 4, 10, 11, 12, 13, 14, 15, 16, 17, 18, 19, 20, 21, 22, 23, 24, 28, 33, 50, 58, 80, 85, 103, 110, 140, 151, 171, 185, 199, 213, 1000000, 1000001, 1000002] hX mixed ?_ | refine awp_skip ?_ | refine awp_exit ?_); (simp [go_sem]; try (refine ⟨by kernel_rfl, ?_⟩)))))
          (try refine awp_ret ?_); (try simp only [thenQ, blkQ, loopQ]); refine retH_normal [(1000000, .ow 0), (1000001, .ow 1), (1000002, .ow 2)] [.old 0 ⟨3, 1, (r3 Q Z T).map ii⟩, .old 1 ⟨25, 1, [.ow 2]⟩, .old 2 ⟨3, 1, R.map ii⟩] ?_
          simp [go_sem]
        · have hne : r3 Q S1 W = r3 Q Z T := by
            rw [← q3]
            have : A2 = [] ∨ B2 = [] := by
              simp at hd
              rcases Nat.lt_or_ge s p with h | h
              · exact .inr (List.length_eq_zero_iff.1 (by omega))
              · exact .inl (List.length_eq_zero_iff.1 (by omega))
            rw [← hW]
            rcases this with e0 | e0
            · rw [e0, List.nil_append, srt_of hB.2.1]; simp [r3]
            · rw [e0, List.append_nil, srt_of hA.2.1]; simp [r3]
          rw [hne]
          first | refine awp_skip ?_ | skip
          (try refine awp_ret ?_); (try simp only [thenQ, blkQ, loopQ]); refine retH_normal [(1000000, .ow 0), (1000001, .ow 1), (1000002, .ow 2)] [.old 0 ⟨3, 1, (r3 Q Z T).map ii⟩, .old 1 ⟨25, 1, [.ow 2]⟩, .old 2 ⟨3, 1, R.map ii⟩] ?_
          simp [go_sem]
end Go.Proofs.YtjgkjenbgadacaaDoor

namespace Go.Proofs.YtjgkjenbgadacaaDoor
open Go.RowKit Go.Ab
attribute [local irreducible] AWP Go.Ab.Sub Means MeansH CallK CallG CallT CallGT CallU
abbrev allLt (l : List Int) : Prop := l.Pairwise (· < ·)
theorem lt_nodup {l : List Int} (h : allLt l) : l.Nodup := h.imp fun h e => by omega
theorem lt_drop {l : List Int} (h : allLt l) (k : Nat) : allLt (l.drop k) := h.sublist (List.drop_sublist _ _)
theorem lt_take {l : List Int} (h : allLt l) (k : Nat) : allLt (l.take k) := h.sublist (List.take_sublist _ _)
theorem lt_split {l : List Int} (h : allLt l) (k : Nat) : ∀ x ∈ l.take k, ∀ y ∈ l.drop k, x < y := by
  have := h
  rw [← List.take_append_drop k l, allLt, List.pairwise_append] at this
  exact this.2.2
def half (K : Int → Int) (s : Nat) (l : List Int) (a : Nat) : List Int := bsort K (2 * s) (l.take a) ++ bsort K s (l.drop a)
theorem srt_two (K : Int → Int) {l : List Int} (h : l.Nodup) (s : Nat) : srt K (srt K (l.take s) ++ srt K (l.drop s)) = srt K l := by
  refine srt_uniq ?_ (srt_sorted ?_)
  · refine (srt_perm K _).trans (((srt_perm K _).append (srt_perm K _)).trans ?_)
    rw [List.take_append_drop]
  · refine (((srt_perm K _).append (srt_perm K _)).nodup_iff).2 ?_
    rw [List.take_append_drop]; exact h
theorem half_cut {K : Int → Int} {s : Nat} (hs : 0 < s) (l : List Int) (a : Nat) : half K s l a = r4 (bsort K (2 * s) (l.take a), srt K ((l.drop a).take s), srt K ((l.drop (a + s)).take s), bsort K s (l.drop (a + s + s))) := by
  unfold half
  rw [bsort_cut (l := l.drop a) hs, List.drop_drop, bsort_cut (l := l.drop (a + s)) hs, List.drop_drop]
  simp [r4]
theorem half_step {K : Int → Int} {s : Nat} (hs : 0 < s) {l : List Int} (hn : l.Nodup) (t : Nat) (h : t * (2 * s) + 2 * s ≤ l.length) :
    r3 (bsort K (2 * s) (l.take (t * (2 * s)))) (srt K (srt K ((l.drop (t * (2 * s))).take s) ++ srt K ((l.drop (t * (2 * s) + s)).take s))) (bsort K s (l.drop (t * (2 * s) + s + s))) = half K s l (t * (2 * s) + 2 * s) := by
  obtain ⟨a, ha⟩ : ∃ a, t * (2 * s) = a := ⟨_, rfl⟩
  have e1 : bsort K (2 * s) (l.take (a + 2 * s)) = bsort K (2 * s) (l.take a) ++ srt K ((l.drop a).take (2 * s)) := by
    rw [bsort_app (by omega) t (l.take (a + 2 * s)) (by rw [List.length_take]; omega), ha, List.take_take, Nat.min_eq_left (by omega), List.drop_take, Nat.add_sub_cancel_left, bsort_few (l := List.take (2 * s) _) (by rw [List.length_take]; omega)]
  have e2 : srt K (srt K ((l.drop a).take s) ++ srt K ((l.drop (a + s)).take s)) = srt K ((l.drop a).take (2 * s)) := by
    have := srt_two K (l := (l.drop a).take (2 * s)) ((hn.sublist (List.drop_sublist _ _)).sublist (List.take_sublist _ _)) s
    rw [List.take_take, Nat.min_eq_left (by omega), List.drop_take, List.drop_drop, show 2 * s - s = s by omega] at this
    exact this
  rw [ha, e2]
  unfold half
  rw [e1, show a + s + s = a + 2 * s by omega]
  simp [r3]
theorem half_zero (K : Int → Int) {s : Nat} (l : List Int) : half K s l 0 = bsort K s l := by
  unfold half; rw [List.take_zero, bsort_few (by simp)]; simp [srt_nil']
theorem half_done {K : Int → Int} {s : Nat} (hs : 0 < s) {l : List Int} (t : Nat) (h1 : t * (2 * s) ≤ l.length) (h2 : l.length ≤ t * (2 * s) + s) : half K s l (t * (2 * s)) = bsort K (2 * s) l := by
  rw [bsort_app (show 0 < 2 * s by omega) t l h1]
  unfold half
  rw [bsort_few (s := s) (by simp; omega), bsort_few (s := 2 * s) (l := l.drop _) (by simp; omega)]
theorem half_last {K : Int → Int} {s : Nat} (hs : 0 < s) {l : List Int} (hn : l.Nodup) (t : Nat) (h1 : t * (2 * s) + s ≤ l.length) (h2 : l.length ≤ t * (2 * s) + 2 * s) :
    r3 (bsort K (2 * s) (l.take (t * (2 * s)))) (srt K (srt K ((l.drop (t * (2 * s))).take s) ++ srt K ((l.drop (t * (2 * s) + s)).take s))) (bsort K s (l.drop (t * (2 * s) + s + s))) = bsort K (2 * s) l := by
  have e2 := srt_two K (l := l.drop (t * (2 * s))) (hn.sublist (List.drop_sublist _ _)) s
  rw [List.drop_drop] at e2
  rw [bsort_app (show 0 < 2 * s by omega) t l (by omega), List.take_of_length_le (l := l.drop (t * (2 * s) + s)) (by simp; omega), e2, List.drop_of_length_le (l := l) (i := t * (2 * s) + s + s) (by omega), bsort_few (s := s) (by simp), bsort_few (s := 2 * s) (l := l.drop _) (by simp; omega)]
  simp [r3, srt_nil']
def twen (K : Int → Int) (l : List Int) (a : Nat) : List Int := bsort K 20 (l.take a) ++ l.drop a
theorem twen_zero (K : Int → Int) (l : List Int) : twen K l 0 = l := by unfold twen; rw [List.take_zero, bsort_few (by simp)]; simp [srt_nil']
theorem twen_cut (K : Int → Int) (l : List Int) (a c : Nat) : twen K l a = r3 (bsort K 20 (l.take a)) ((l.drop a).take c) (l.drop (a + c)) := by
  unfold twen r3; rw [List.append_assoc, ← List.drop_drop, List.take_append_drop]
theorem twen_step (K : Int → Int) {l : List Int} (t c : Nat) (hc : c ≤ 20) (h : t * 20 + c ≤ l.length) : r3 (bsort K 20 (l.take (t * 20))) (srt K ((l.drop (t * 20)).take c)) (l.drop (t * 20 + c)) = twen K l (t * 20 + c) := by
  unfold twen r3
  rw [bsort_app (K := K) (s := 20) (by omega) t (l.take (t * 20 + c)) (by rw [List.length_take]; omega), List.take_take, Nat.min_eq_left (by omega), List.drop_take, Nat.add_sub_cancel_left, bsort_few (l := List.take c _) (by simp; omega)]
theorem twen_full (K : Int → Int) (l : List Int) {a : Nat} (h : l.length ≤ a) : twen K l a = bsort K 20 l := by unfold twen; rw [List.take_of_length_le h, List.drop_of_length_le h, List.append_nil]
end Go.Proofs.YtjgkjenbgadacaaDoor

namespace Go.Proofs.YtjgkjenbgadacaaDoor.B
open Go.RowKit Go.Ab
attribute [local irreducible] AWP Go.Ab.Sub Means MeansH CallK CallG CallT CallGT CallU
theorem mergeAt (R : List Bd) (hR : R.length ≤ 100000) (hok : okR R) {l : List Int} (hlt : allLt l) (hr : ∀ x ∈ l, 0 ≤ x ∧ x < R.length) (hl : l.length ≤ 1000) {s a m b : Nat} (hs : 0 < s) (hm : a + s = m) (h1 : m < l.length) (hb : b = min (m + s) l.length) :
    MeansH Tryd.prog 75 (sH (half (kf R) s l a) R) [.ow 0, ii a, ii m, ii b, clo] (.tup [])
      (sH (r3 (bsort (kf R) (2 * s) (l.take a)) (srt (kf R) (srt (kf R) ((l.drop a).take s) ++ srt (kf R) ((l.drop (a + s)).take s))) (bsort (kf R) s (l.drop (a + s + s)))) R) := by
  have lA : ((l.drop a).take s).length = s := by simp; omega
  have lB : ((l.drop (a + s)).take s).length = b - m := by simp; omega
  have lQ : (bsort (kf R) (2 * s) (l.take a)).length = a := by rw [bsort_len _ (by omega) _ _ (Nat.le_refl _)]; simp; omega
  have lT : (bsort (kf R) s (l.drop (a + s + s))).length = l.length - (a + s + s) := by rw [bsort_len _ (by omega) _ _ (Nat.le_refl _)]; simp
  have mA : ∀ x, x ∈ srt (kf R) ((l.drop a).take s) → x ∈ (l.drop a).take s := fun x hx => (srt_perm _ _).mem_iff.1 hx
  have mB : ∀ x, x ∈ srt (kf R) ((l.drop (a + s)).take s) → x ∈ (l.drop (a + s)).take s := fun x hx => (srt_perm _ _).mem_iff.1 hx
  have h := sym_m R hR hok (s + s) (bsort (kf R) (2 * s) (l.take a)) (srt (kf R) ((l.drop a).take s)) (srt (kf R) ((l.drop (a + s)).take s)) (bsort (kf R) s (l.drop (a + s + s)))
    (by rw [srt_len, srt_len, lA, lB]; omega) (by rw [srt_len, lA]; omega) (by rw [srt_len, lB]; omega) (srt_sorted (lt_nodup (lt_take (lt_drop hlt a) s))) (srt_sorted (lt_nodup (lt_take (lt_drop hlt (a + s)) s)))
    (fun x hx y hy => lt_split (lt_drop hlt a) s x (mA x hx) y (by rw [List.drop_drop]; exact List.mem_of_mem_take (mB y hy)))
    (fun x hx => hr x (List.mem_of_mem_drop (List.mem_of_mem_take (mA x hx)))) (fun x hx => hr x (List.mem_of_mem_drop (List.mem_of_mem_take (mB x hx))))
    (by rw [lQ, lT, srt_len, srt_len, lA, lB]; omega)
  rw [lQ, srt_len, srt_len, lA, lB, ← half_cut hs, hm, show m + (b - m) = b by omega] at h
  rw [hm]
  exact h
theorem insAt (R : List Bd) (hR : R.length ≤ 100000) (hok : okR R) {l : List Int} (hlt : allLt l) (hr : ∀ x ∈ l, 0 ≤ x ∧ x < R.length) (hl : l.length ≤ 1000) (t : Nat) {c b : Nat} (hc : c ≤ 20) (h : t * 20 + c = b) (hb : b ≤ l.length) :
    MeansH Tryd.prog 74 (sH (twen (kf R) l (t * 20)) R) [.ow 0, ii (t * 20 : Nat), ii b, clo] (.tup []) (sH (twen (kf R) l b) R) := by
  have lM : ((l.drop (t * 20)).take c).length = c := by simp; omega
  have lQ : (bsort (kf R) 20 (l.take (t * 20))).length = t * 20 := by rw [bsort_len _ (by omega) _ _ (Nat.le_refl _)]; simp; omega
  have hM := lt_take (lt_drop hlt (t * 20)) c
  have h1 := insSort_m (bsort (kf R) 20 (l.take (t * 20))) ((l.drop (t * 20)).take c) (l.drop (t * 20 + c)) R (lt_nodup hM) (fun i j hi hj hij => List.pairwise_iff_getElem.1 hM i j hi hj hij)
    (fun x hx => hr x (List.mem_of_mem_drop (List.mem_of_mem_take hx))) (by rw [lQ, lM, List.length_drop]; omega) hR hok
  rw [← twen_cut, twen_step _ t c hc (by omega), lQ, lM, h] at h1
  exact h1
set_option maxHeartbeats 8000000 in
set_option maxRecDepth 20000 in
theorem stableG_m (l : List Int) (R : List Bd) (hlt : allLt l) (hr : ∀ x ∈ l, 0 ≤ x ∧ x < R.length) (hl : l.length ≤ 1000) (hR : R.length ≤ 100000) (hok : okR R) :
    MeansH Tryd.prog 60 (sH l R) [.ow 0, ii l.length, clo] (.tup []) (sH (srt (kf R) l) R) := by
  have hnd := lt_nodup hlt
  obtain ⟨n, hn⟩ : ∃ n, l.length = n := ⟨_, rfl⟩
  rw [hn]
  refine meansH_fn 2 63 [] Tryd.func60 rfl rfl rfl (by simp) (by decide) rfl fun X hX => ?_
  (repeat (first | refine awp_seq ?_ | refine awp_block ?_ | ((first | refine awp_runG [0, 1, 2, 6, 7, 8, 9, 13, 30, 35, 54, 1000000, 1000001] hX ?_ | refine awp_drawnG [0, 1, 2, 6, 7, 8, 9, 13, 30, 35, 54, 1000000, 1000001] hX mixed ?_ | refine awp_skip ?_ | refine awp_exit ?_); (simp [go_sem]; (try simp (disch := omega) only [w64, td, tm]); try (refine ⟨by kernel_rfl, ?_⟩)))))
  refine awp_loop (fun t : Nat => ⟨mkE [(0, .ow 0), (1, ii n), (2, clo), (6, ii 20), (7, ii (t * 20 : Nat)), (8, ii (t * 20 + 20 : Nat)), (1000000, .ow 0), (1000001, .ow 1)], sH (twen (kf R) l (t * 20)) R⟩) (fun t => t * 20 ≤ n) (fun t => n - t * 20) 0 ?_ ?_ ?_
  · rw [Nat.zero_mul, twen_zero]
    refine sub_of _ [.old 0 ⟨3, 1, l.map ii⟩, .old 1 ⟨22, 1, [bsl R]⟩] (by simp [go_sem]) ?_
    simp [go_sem]
  · omega
  · intro t ht
    obtain ⟨a, ha⟩ : ∃ a, t * 20 = a := ⟨_, rfl⟩
    obtain ⟨b, hb⟩ : ∃ b, a + 20 = b := ⟨_, rfl⟩
    have ht1 : (t + 1) * 20 = b := by omega
    rw [ha] at ht
    rw [ha, hb]
    (repeat (first | refine awp_seq ?_ | refine awp_block ?_ | ((first | refine awp_runG [0, 1, 2, 6, 7, 8, 9, 13, 30, 35, 54, 1000000, 1000001] hX ?_ | refine awp_drawnG [0, 1, 2, 6, 7, 8, 9, 13, 30, 35, 54, 1000000, 1000001] hX mixed ?_ | refine awp_skip ?_ | refine awp_exit ?_); (simp [go_sem]; try (refine ⟨by kernel_rfl, ?_⟩)))))
    refine awp_cond (b := decide (b ≤ n)) (by simp [go_sem]; try omega) (fun hc => ?_) (fun hc => ?_)
    · simp at hc
      have hi := insAt R hR hok hlt hr hl t (c := 20) (b := b) (by omega) (by omega) (by omega)
      rw [ha] at hi
      (repeat (first | refine awp_seq ?_ | refine awp_block ?_ | ((first | refine awp_runG [0, 1, 2, 6, 7, 8, 9, 13, 30, 35, 54, 1000000, 1000001] hX ?_ | refine awp_drawnG [0, 1, 2, 6, 7, 8, 9, 13, 30, 35, 54, 1000000, 1000001] hX mixed ?_ | refine awp_skip ?_ | refine awp_exit ?_); (simp [go_sem]; try (refine ⟨by kernel_rfl, ?_⟩)))))
      first | refine callH_intro [0, 1] (hi) (by simp [go_sem]) ?_ | refine callTQ_intro [0, 1] (hi) (by simp [go_sem]) ?_ | refine callTE_intro [0, 1] (hi) (by simp [go_sem]) ?_
      try (simp [go_sem]; try (refine ⟨by kernel_rfl, ?_⟩))
      (repeat (first | refine awp_seq ?_ | refine awp_block ?_ | ((first | refine awp_runG [0, 1, 2, 6, 7, 8, 9, 13, 30, 35, 54, 1000000, 1000001] hX ?_ | refine awp_drawnG [0, 1, 2, 6, 7, 8, 9, 13, 30, 35, 54, 1000000, 1000001] hX mixed ?_ | refine awp_skip ?_ | refine awp_exit ?_); (simp [go_sem]; (try simp (disch := omega) only [w64, td, tm]); try (refine ⟨by kernel_rfl, ?_⟩)))))
      refine ⟨t + 1, by omega, by omega, ?_⟩
      rw [ht1]
      refine sub_of _ [.old 0 ⟨3, 1, (twen (kf R) l b).map ii⟩, .old 1 ⟨22, 1, [bsl R]⟩] (by simp [go_sem]) ?_
      simp [go_sem]
      try omega
    · simp at hc
      have hi := insAt R hR hok hlt hr hl t (c := n - a) (b := n) (by omega) (by omega) (by omega)
      have hfu := twen_full (kf R) l (a := n) (by omega)
      rw [ha, hfu] at hi
      (repeat (first | refine awp_seq ?_ | refine awp_block ?_ | ((first | refine awp_runG [0, 1, 2, 6, 7, 8, 9, 13, 30, 35, 54, 1000000, 1000001] hX ?_ | refine awp_drawnG [0, 1, 2, 6, 7, 8, 9, 13, 30, 35, 54, 1000000, 1000001] hX mixed ?_ | refine awp_skip ?_ | refine awp_exit ?_); (simp [go_sem]; try (refine ⟨by kernel_rfl, ?_⟩)))))
      first | refine callH_intro [0, 1] (hi) (by simp [go_sem]) ?_ | refine callTQ_intro [0, 1] (hi) (by simp [go_sem]) ?_ | refine callTE_intro [0, 1] (hi) (by simp [go_sem]) ?_
      try (simp [go_sem]; try (refine ⟨by kernel_rfl, ?_⟩))
      (repeat (first | refine awp_seq ?_ | refine awp_block ?_ | ((first | refine awp_runG [0, 1, 2, 6, 7, 8, 9, 13, 30, 35, 54, 1000000, 1000001] hX ?_ | refine awp_drawnG [0, 1, 2, 6, 7, 8, 9, 13, 30, 35, 54, 1000000, 1000001] hX mixed ?_ | refine awp_skip ?_ | refine awp_exit ?_); (simp [go_sem]; try (refine ⟨by kernel_rfl, ?_⟩)))))
      refine awp_loop (fun s : Nat => ⟨mkE [(0, .ow 0), (1, ii n), (2, clo), (6, ii s), (1000000, .ow 0), (1000001, .ow 1)], sH (bsort (kf R) s l) R⟩) (fun s => 0 < s ∧ s ≤ 2 * n + 20) (fun s => n - s) 20 ?_ ?_ ?_
      · refine sub_of _ [.old 0 ⟨3, 1, (bsort (kf R) 20 l).map ii⟩, .old 1 ⟨22, 1, [bsl R]⟩] (by simp [go_sem]) ?_
        simp [go_sem]
      · omega
      · rintro s ⟨hs0, hs1⟩
        (repeat (first | refine awp_seq ?_ | refine awp_block ?_ | ((first | refine awp_runG [0, 1, 2, 6, 7, 8, 9, 13, 30, 35, 54, 1000000, 1000001] hX ?_ | refine awp_drawnG [0, 1, 2, 6, 7, 8, 9, 13, 30, 35, 54, 1000000, 1000001] hX mixed ?_ | refine awp_skip ?_ | refine awp_exit ?_); (simp [go_sem]; try (refine ⟨by kernel_rfl, ?_⟩)))))
        refine awp_cond (b := decide (s < n)) (by simp [go_sem]; try omega) (fun hd => ?_) (fun hd => ?_)
        · simp at hd
          have hw2 := w64 (x := 2 * (s : Int)) (by omega) (by omega)
          have hw3 := w64 (x := (s : Int) * 2) (by omega) (by omega)
          (repeat (first | refine awp_seq ?_ | refine awp_block ?_ | ((first | refine awp_runG [0, 1, 2, 6, 7, 8, 9, 13, 30, 35, 54, 1000000, 1000001] hX ?_ | refine awp_drawnG [0, 1, 2, 6, 7, 8, 9, 13, 30, 35, 54, 1000000, 1000001] hX mixed ?_ | refine awp_skip ?_ | refine awp_exit ?_); (simp [go_sem, hw2]; try (refine ⟨by kernel_rfl, ?_⟩)))))
          refine awp_loop (fun z : Nat × Nat => ⟨mkE [(0, .ow 0), (1, ii n), (2, clo), (6, ii s), (7, ii z.2), (8, ii (z.2 + 2 * s : Nat)), (1000000, .ow 0), (1000001, .ow 1)], sH (half (kf R) s l z.2) R⟩) (fun z => z.2 = z.1 * (2 * s) ∧ z.2 ≤ n) (fun z => n - z.2) (0, 0) ?_ ?_ ?_
          · simp only [half_zero]
            refine sub_of _ [.old 0 ⟨3, 1, (bsort (kf R) s l).map ii⟩, .old 1 ⟨22, 1, [bsl R]⟩] (by simp [go_sem]) ?_
            simp [go_sem]
          · simp
          · rintro ⟨t, a⟩ ⟨hta, han⟩
            simp only [] at hta han
            obtain ⟨b, hb⟩ : ∃ b, a + 2 * s = b := ⟨_, rfl⟩
            obtain ⟨m, hm⟩ : ∃ m, a + s = m := ⟨_, rfl⟩
            have hma : (a : Int) + s = m := by omega
            have hwm := w64 (x := (m : Int)) (by omega) (by omega)
            have ht1 : (t + 1) * (2 * s) = b := by rw [Nat.add_mul, Nat.one_mul, ← hta]; exact hb
            simp only [hb]
            (repeat (first | refine awp_seq ?_ | refine awp_block ?_ | ((first | refine awp_runG [0, 1, 2, 6, 7, 8, 9, 13, 30, 35, 54, 1000000, 1000001] hX ?_ | refine awp_drawnG [0, 1, 2, 6, 7, 8, 9, 13, 30, 35, 54, 1000000, 1000001] hX mixed ?_ | refine awp_skip ?_ | refine awp_exit ?_); (simp [go_sem]; try (refine ⟨by kernel_rfl, ?_⟩)))))
            refine awp_cond (b := decide (b ≤ n)) (by simp [go_sem]; try omega) (fun he => ?_) (fun he => ?_)
            · simp at he
              have hme := mergeAt R hR hok hlt hr hl (s := s) (a := a) (m := m) (b := b) hs0 hm (by omega) (by omega)
              have hst := half_step (K := kf R) hs0 hnd t (by rw [← hta]; omega)
              rw [← hta] at hst
              rw [hst, hb] at hme
              have hwb := w64 (x := (b : Int) + 2 * s) (by omega) (by omega)
              (repeat (first | refine awp_seq ?_ | refine awp_block ?_ | ((first | refine awp_runG [0, 1, 2, 6, 7, 8, 9, 13, 30, 35, 54, 1000000, 1000001] hX ?_ | refine awp_drawnG [0, 1, 2, 6, 7, 8, 9, 13, 30, 35, 54, 1000000, 1000001] hX mixed ?_ | refine awp_skip ?_ | refine awp_exit ?_); (simp [go_sem, hma, hwm]; try (refine ⟨by kernel_rfl, ?_⟩)))))
              first | refine callH_intro [0, 1] (hme) (by simp [go_sem]) ?_ | refine callTQ_intro [0, 1] (hme) (by simp [go_sem]) ?_ | refine callTE_intro [0, 1] (hme) (by simp [go_sem]) ?_
              try (simp [go_sem, hw2, hwb]; try (refine ⟨by kernel_rfl, ?_⟩))
              (repeat (first | refine awp_seq ?_ | refine awp_block ?_ | ((first | refine awp_runG [0, 1, 2, 6, 7, 8, 9, 13, 30, 35, 54, 1000000, 1000001] hX ?_ | refine awp_drawnG [0, 1, 2, 6, 7, 8, 9, 13, 30, 35, 54, 1000000, 1000001] hX mixed ?_ | refine awp_skip ?_ | refine awp_exit ?_); (simp [go_sem, hw2, hwb]; try (refine ⟨by kernel_rfl, ?_⟩)))))
              refine ⟨t + 1, b, ⟨ht1.symm, he⟩, by omega, ?_⟩
              refine sub_of _ [.old 0 ⟨3, 1, (half (kf R) s l b).map ii⟩, .old 1 ⟨22, 1, [bsl R]⟩] (by simp [go_sem]) ?_
              simp [go_sem]
            · simp at he
              (repeat (first | refine awp_seq ?_ | refine awp_block ?_ | ((first | refine awp_runG [0, 1, 2, 6, 7, 8, 9, 13, 30, 35, 54, 1000000, 1000001] hX ?_ | refine awp_drawnG [0, 1, 2, 6, 7, 8, 9, 13, 30, 35, 54, 1000000, 1000001] hX mixed ?_ | refine awp_skip ?_ | refine awp_exit ?_); (simp [go_sem, hma, hwm]; try (refine ⟨by kernel_rfl, ?_⟩)))))
              refine awp_cut ⟨mkE [(0, .ow 0), (1, ii n), (2, clo), (6, ii s), (1000000, .ow 0), (1000001, .ow 1)], sH (bsort (kf R) (2 * s) l) R⟩ ?_ ?_
              · refine awp_cond (b := decide (m < n)) (by simp [go_sem]; try omega) (fun hf => ?_) (fun hf => ?_)
                · simp at hf
                  have hme := mergeAt R hR hok hlt hr hl (s := s) (a := a) (m := m) (b := n) hs0 hm (by omega) (by omega)
                  have hst := half_last (K := kf R) hs0 hnd t (by rw [← hta]; omega) (by rw [← hta]; omega)
                  rw [← hta] at hst
                  rw [hst] at hme
                  (repeat (first | refine awp_seq ?_ | refine awp_block ?_ | ((first | refine awp_runG [0, 1, 2, 6, 7, 8, 9, 13, 30, 35, 54, 1000000, 1000001] hX ?_ | refine awp_drawnG [0, 1, 2, 6, 7, 8, 9, 13, 30, 35, 54, 1000000, 1000001] hX mixed ?_ | refine awp_skip ?_ | refine awp_exit ?_); (simp [go_sem]; try (refine ⟨by kernel_rfl, ?_⟩)))))
                  first | refine callH_intro [0, 1] (hme) (by simp [go_sem]) ?_ | refine callTQ_intro [0, 1] (hme) (by simp [go_sem]) ?_ | refine callTE_intro [0, 1] (hme) (by simp [go_sem]) ?_
                  try (simp [go_sem]; try (refine ⟨by kernel_rfl, ?_⟩))
                  refine sub_of _ [.old 0 ⟨3, 1, (bsort (kf R) (2 * s) l).map ii⟩, .old 1 ⟨22, 1, [bsl R]⟩] (by simp [go_sem]) ?_
                  simp [go_sem]
                · simp at hf
                  have hst := half_done (K := kf R) hs0 (l := l) t (by rw [← hta]; omega) (by rw [← hta]; omega)
                  rw [← hta] at hst
                  rw [hst]
                  (repeat (first | refine awp_seq ?_ | refine awp_block ?_ | ((first | refine awp_runG [0, 1, 2, 6, 7, 8, 9, 13, 30, 35, 54, 1000000, 1000001] hX ?_ | refine awp_drawnG [0, 1, 2, 6, 7, 8, 9, 13, 30, 35, 54, 1000000, 1000001] hX mixed ?_ | refine awp_skip ?_ | refine awp_exit ?_); (simp [go_sem]; try (refine ⟨by kernel_rfl, ?_⟩)))))
                  refine sub_of _ [.old 0 ⟨3, 1, (bsort (kf R) (2 * s) l).map ii⟩, .old 1 ⟨22, 1, [bsl R]⟩] (by simp [go_sem]) ?_
                  simp [go_sem]
              · (repeat (first | refine awp_seq ?_ | refine awp_block ?_ | ((first | refine awp_runG [0, 1, 2, 6, 7, 8, 9, 13, 30, 35, 54, 1000000, 1000001] hX ?_ | refine awp_drawnG [0, 1, 2, 6, 7, 8, 9, 13, 30, 35, 54, 1000000, 1000001] hX mixed ?_ | refine awp_skip ?_ | refine awp_exit ?_); (simp [go_sem, hw3]; try (refine ⟨by kernel_rfl, ?_⟩)))))
                refine ⟨2 * s, by omega, by omega, ?_⟩
                refine sub_of _ [.old 0 ⟨3, 1, (bsort (kf R) (2 * s) l).map ii⟩, .old 1 ⟨22, 1, [bsl R]⟩] (by simp [go_sem]) ?_
                simp [go_sem]
                try omega
        · simp at hd
          rw [bsort_few (by omega)]
          (repeat (first | refine awp_seq ?_ | refine awp_block ?_ | ((first | refine awp_runG [0, 1, 2, 6, 7, 8, 9, 13, 30, 35, 54, 1000000, 1000001] hX ?_ | refine awp_drawnG [0, 1, 2, 6, 7, 8, 9, 13, 30, 35, 54, 1000000, 1000001] hX mixed ?_ | refine awp_skip ?_ | refine awp_exit ?_); (simp [go_sem]; try (refine ⟨by kernel_rfl, ?_⟩)))))
          (try refine awp_ret ?_); (try simp only [thenQ, blkQ, loopQ]); refine retH_normal [(1000000, .ow 0), (1000001, .ow 1)] [.old 0 ⟨3, 1, (srt (kf R) l).map ii⟩, .old 1 ⟨22, 1, [bsl R]⟩] ?_
          simp [go_sem]
set_option maxHeartbeats 4000000 in
set_option maxRecDepth 20000 in
theorem sortG_m (l : List Int) (R : List Bd) (hlt : allLt l) (hr : ∀ x ∈ l, 0 ≤ x ∧ x < R.length) (hl : l.length ≤ 1000) (hR : R.length ≤ 100000) (hok : okR R) :
    MeansH Tryd.prog 46 (sH l R) [.ow 0, clo] (.tup []) (sH (srt (kf R) l) R) := by
  refine meansH_fn 2 9 [] Tryd.func46 rfl rfl rfl (by simp) (by decide) rfl fun X hX => ?_
  (repeat (first | refine awp_seq ?_ | refine awp_block ?_ | ((first | refine awp_runG [0, 1, 1000000, 1000001] hX ?_ | refine awp_drawnG [0, 1, 1000000, 1000001] hX mixed ?_ | refine awp_skip ?_ | refine awp_exit ?_); (simp [go_sem]; try (refine ⟨by kernel_rfl, ?_⟩)))))
  first | refine callH_intro [0, 1] (stableG_m l R hlt hr hl hR hok) (by simp [go_sem]) ?_ | refine callTQ_intro [0, 1] (stableG_m l R hlt hr hl hR hok) (by simp [go_sem]) ?_ | refine callTE_intro [0, 1] (stableG_m l R hlt hr hl hR hok) (by simp [go_sem]) ?_
  try (simp [go_sem]; try (refine ⟨by kernel_rfl, ?_⟩))
  (repeat (first | refine awp_seq ?_ | refine awp_block ?_ | ((first | refine awp_runG [0, 1, 1000000, 1000001] hX ?_ | refine awp_drawnG [0, 1, 1000000, 1000001] hX mixed ?_ | refine awp_skip ?_ | refine awp_exit ?_); (simp [go_sem]; try (refine ⟨by kernel_rfl, ?_⟩)))))
  (try refine awp_ret ?_); (try simp only [thenQ, blkQ, loopQ]); refine retH_normal [(1000000, .ow 0), (1000001, .ow 1)] [.old 0 ⟨3, 1, (srt (kf R) l).map ii⟩, .old 1 ⟨22, 1, [bsl R]⟩] ?_
  simp [go_sem]
end Go.Proofs.YtjgkjenbgadacaaDoor.B

namespace Go.Proofs.YtjgkjenbgadacaaDoor
open Go.RowKit Go.Ab
attribute [local irreducible] AWP Go.Ab.Sub Means MeansH CallK CallG CallT CallGT CallU
set_option maxHeartbeats 8000000 in
set_option maxRecDepth 20000 in
theorem ranked_m (L : List Bd) (P : Int) (hl : L.length ≤ 1000) : Means true Tryd.prog 21 [bl L, ii P] (il (ranked L P)) := by
  have hS := B.sortG_m (plc L P L.length) L (plc_lt L P _) (fun x hx => by
    obtain ⟨j, h1, h2, _⟩ := (plc_mem L P x _).1 hx
    omega) (by have := plc_le L P L.length; omega) (by omega) trivial
  have hR : ranked L P = srt (B.kf L) (plc L P L.length) := rfl
  rw [← hR] at hS
  have hs := fun k => (show plc L P (k + 1) = if cntAt L P k then plc L P k ++ [(k : Int)] else plc L P k from rfl)
  have hle := plc_le L P
  have h0 : plc L P 0 = [] := rfl
  clear hR
  generalize plc L P = F at *
  generalize ranked L P = R at *
  refine means_fn true 32 [.tmp 4] Tryd.func21 rfl rfl rfl (by simp) (by decide) rfl fun X hX => ?_
  (repeat (first | refine awp_seq ?_ | refine awp_block ?_ | ((first | refine awp_runG [0, 1, 2, 4, 5, 6, 7, 8, 9, 10, 11, 22] hX ?_ | refine awp_drawnG [0, 1, 2, 4, 5, 6, 7, 8, 9, 10, 11, 22] hX mixed ?_ | refine awp_ret ?_ | refine awp_skip ?_ | refine awp_exit ?_); (simp [go_sem]; try (refine ⟨by kernel_rfl, ?_⟩)))))
  refine awp_loop (fun k : Nat => ⟨mkE [(1, ii P), (2, .el 0 1 0 0), (5, .ow 1), (8, bl L), (9, ii L.length), (10, ii k)], [.row ⟨22, 1, [bl L]⟩, rowI (F k)]⟩) (fun k => k ≤ L.length) (fun k => L.length - k) 0 ?_ ?_ ?_
  · rw [h0]
    refine sub_of _ [.old 0 ⟨22, 1, [bl L]⟩, .birth 3 1] (by simp [go_sem]) ?_
    simp [go_sem]
  · omega
  · rintro k hk
    have hlk := hle k
    (repeat (first | refine awp_seq ?_ | refine awp_block ?_ | ((first | refine awp_runG [0, 1, 2, 4, 5, 6, 7, 8, 9, 10, 11, 22] hX ?_ | refine awp_drawnG [0, 1, 2, 4, 5, 6, 7, 8, 9, 10, 11, 22] hX mixed ?_ | refine awp_ret ?_ | refine awp_skip ?_ | refine awp_exit ?_); (simp [go_sem]; try (refine ⟨by kernel_rfl, ?_⟩)))))
    refine awp_cond (b := decide (k < L.length)) (by simp [go_sem]) (fun hc => ?_) (fun hc => ?_)
    · simp at hc
      have hq := nth_ob hc
      have hca : cntAt L P k = cntB P L[k] := by simp [cntAt, List.getElem?_eq_getElem hc]
      have hsk := hs k
      have wk := w64 (x := (k : Int) + 1) (by omega) (by omega)
      rw [hca] at hsk
      generalize L[k] = x at *
      generalize F k = D at *
      (repeat (first | refine awp_seq ?_ | refine awp_block ?_ | ((first | refine awp_runG [0, 1, 2, 4, 5, 6, 7, 8, 9, 10, 11, 22] hX ?_ | refine awp_drawnG [0, 1, 2, 4, 5, 6, 7, 8, 9, 10, 11, 22] hX mixed ?_ | refine awp_ret ?_ | refine awp_skip ?_ | refine awp_exit ?_); (simp [go_sem, hc, hq]; try (refine ⟨by kernel_rfl, ?_⟩)))))
      try (simp [go_sem]; try (refine ⟨by kernel_rfl, ?_⟩))
      refine awp_cond (b := cntB P x) (by simp [go_sem, cntB]) (fun hd => ?_) (fun hd => ?_)
      · rw [if_pos hd] at hsk
        (repeat (first | refine awp_seq ?_ | refine awp_block ?_ | ((first | refine awp_runG [0, 1, 2, 4, 5, 6, 7, 8, 9, 10, 11, 22] hX ?_ | refine awp_drawnG [0, 1, 2, 4, 5, 6, 7, 8, 9, 10, 11, 22] hX mixed ?_ | refine awp_ret ?_ | refine awp_skip ?_ | refine awp_exit ?_); (simp [go_sem]; try (refine ⟨by kernel_rfl, ?_⟩)))))
        try (repeat refine And.intro (by first | omega | (unfold maxLen; omega) | kernel_rfl | (refine ⟨by first | omega | (unfold maxLen; omega), by first | omega | (unfold maxLen; omega)⟩) | grind) ?_)
        try (repeat (first | refine awp_seq ?_ | refine awp_block ?_ | ((first | refine awp_runG [0, 1, 2, 4, 5, 6, 7, 8, 9, 10, 11, 22] hX ?_ | refine awp_drawnG [0, 1, 2, 4, 5, 6, 7, 8, 9, 10, 11, 22] hX mixed ?_ | refine awp_ret ?_ | refine awp_skip ?_ | refine awp_exit ?_); (simp [go_sem, wk]; try (refine ⟨by kernel_rfl, ?_⟩)))))
        refine ⟨k + 1, by omega, by omega, ?_⟩
        rw [hsk]
        refine sub_of _ [.old 0 ⟨22, 1, [bl L]⟩, .old 4 ⟨3, 1, (D ++ [(k : Int)]).map ii⟩] (by simp [go_sem]) ?_
        simp [go_sem]
        try omega
      · rw [if_neg (by rw [hd]; simp)] at hsk
        (repeat (first | refine awp_seq ?_ | refine awp_block ?_ | ((first | refine awp_runG [0, 1, 2, 4, 5, 6, 7, 8, 9, 10, 11, 22] hX ?_ | refine awp_drawnG [0, 1, 2, 4, 5, 6, 7, 8, 9, 10, 11, 22] hX mixed ?_ | refine awp_ret ?_ | refine awp_skip ?_ | refine awp_exit ?_); (simp [go_sem, wk]; try (refine ⟨by kernel_rfl, ?_⟩)))))
        refine ⟨k + 1, by omega, by omega, ?_⟩
        rw [hsk]
        refine sub_of _ [.old 0 ⟨22, 1, [bl L]⟩, .old 1 ⟨3, 1, D.map ii⟩] (by simp [go_sem]) ?_
        simp [go_sem]
        try omega
    · have hkl : k = L.length := by simp at hc; omega
      subst hkl
      (repeat (first | refine awp_seq ?_ | refine awp_block ?_ | ((first | refine awp_runG [0, 1, 2, 4, 5, 6, 7, 8, 9, 10, 11, 22] hX ?_ | refine awp_drawnG [0, 1, 2, 4, 5, 6, 7, 8, 9, 10, 11, 22] hX mixed ?_ | refine awp_ret ?_ | refine awp_skip ?_ | refine awp_exit ?_); (simp [go_sem]; try (refine ⟨by kernel_rfl, ?_⟩)))))
      first | refine callH_intro [1, 0] (hS) (by simp [go_sem]) ?_ | refine callTQ_intro [1, 0] (hS) (by simp [go_sem]) ?_ | refine callTE_intro [1, 0] (hS) (by simp [go_sem]) ?_
      try (simp [go_sem]; try (refine ⟨by kernel_rfl, ?_⟩))
      (repeat (first | refine awp_seq ?_ | refine awp_block ?_ | ((first | refine awp_runG [0, 1, 2, 4, 5, 6, 7, 8, 9, 10, 11, 22] hX ?_ | refine awp_drawnG [0, 1, 2, 4, 5, 6, 7, 8, 9, 10, 11, 22] hX mixed ?_ | refine awp_ret ?_ | refine awp_skip ?_ | refine awp_exit ?_); (simp [go_sem]; try (refine ⟨by kernel_rfl, ?_⟩)))))
theorem ranked_nth {L : List Bd} {P : Int} (h : ranked L P ≠ []) : ∃ w : Nat, wins L P = some w ∧ ∃ h0 : 0 < (ranked L P).length, (ranked L P)[0] = (w : Int) ∧ w < L.length := by
  cases hr : ranked L P with
  | nil => exact absurd hr h
  | cons x xs =>
    obtain ⟨j, hj, hl, _⟩ := (ranked_mem L P x).1 (by rw [hr]; exact List.mem_cons_self)
    refine ⟨j, ?_, by simp, by simpa using hj, hl⟩
    unfold wins
    rw [hr]; simp [hj]
theorem ranked_none {L : List Bd} {P : Int} (h : ranked L P = []) : wins L P = none := by unfold wins; rw [h]; rfl
def winP (L : List Bd) (P : Int) : Int × Bool := match wins L P with | none => (0, false) | some w => ((w : Int), true)
theorem winner_m (L : List Bd) (P : Int) (hl : L.length ≤ 1000) : Means true Tryd.prog 15 [bl L, ii P] (.tup [ii (winP L P).1, bb (winP L P).2]) := by
  have c1 := ranked_m L P hl
  have hle := ranked_le L P
  by_cases h : ranked L P = []
  · have e : winP L P = (0, false) := by unfold winP; rw [ranked_none h]
    rw [e]
    rw [h] at c1
    refine means_fn true 16 [.tmp 4, .tmp 5] Tryd.func15 rfl rfl rfl (by simp) (by decide) rfl fun X hX => ?_
    (repeat (first | refine awp_seq ?_ | refine awp_block ?_ | ((first | refine awp_runG [0, 1, 4, 5, 6, 12] hX ?_ | refine awp_drawnG [0, 1, 4, 5, 6, 12] hX mixed ?_ | refine awp_ret ?_ | refine awp_skip ?_ | refine awp_exit ?_); (simp [go_sem]; try (refine ⟨by kernel_rfl, ?_⟩)))))
    first | refine callK_intro (c1) rfl (by simp [go_sem]) rfl ?_ | refine callT_intro (c1) rfl (by simp [go_sem]) rfl ?_
    try (simp [go_sem]; try (refine ⟨by kernel_rfl, ?_⟩))
    (repeat (first | refine awp_seq ?_ | refine awp_block ?_ | ((first | refine awp_runG [0, 1, 4, 5, 6, 12] hX ?_ | refine awp_drawnG [0, 1, 4, 5, 6, 12] hX mixed ?_ | refine awp_ret ?_ | refine awp_skip ?_ | refine awp_exit ?_); (simp [go_sem]; try (refine ⟨by kernel_rfl, ?_⟩)))))
    refine awp_cond (b := true) (by simp [go_sem]) (fun _ => ?_) (fun h => by cases h)
    (repeat (first | refine awp_seq ?_ | refine awp_block ?_ | ((first | refine awp_runG [0, 1, 4, 5, 6, 12] hX ?_ | refine awp_drawnG [0, 1, 4, 5, 6, 12] hX mixed ?_ | refine awp_ret ?_ | refine awp_skip ?_ | refine awp_exit ?_); (simp [go_sem]; try (refine ⟨by kernel_rfl, ?_⟩)))))
  · obtain ⟨w, hw, h0, hx, _⟩ := ranked_nth h
    have e : winP L P = ((w : Int), true) := by unfold winP; rw [hw]
    rw [e, ← hx]
    have hq := nth_ii h0
    have hne : (ranked L P).length ≠ 0 := by omega
    generalize ranked L P = R at *
    refine means_fn true 16 [.tmp 4, .tmp 5] Tryd.func15 rfl rfl rfl (by simp) (by decide) rfl fun X hX => ?_
    (repeat (first | refine awp_seq ?_ | refine awp_block ?_ | ((first | refine awp_runG [0, 1, 4, 5, 6, 12] hX ?_ | refine awp_drawnG [0, 1, 4, 5, 6, 12] hX mixed ?_ | refine awp_ret ?_ | refine awp_skip ?_ | refine awp_exit ?_); (simp [go_sem]; try (refine ⟨by kernel_rfl, ?_⟩)))))
    first | refine callK_intro (c1) rfl (by simp [go_sem]) rfl ?_ | refine callT_intro (c1) rfl (by simp [go_sem]) rfl ?_
    try (simp [go_sem]; try (refine ⟨by kernel_rfl, ?_⟩))
    (repeat (first | refine awp_seq ?_ | refine awp_block ?_ | ((first | refine awp_runG [0, 1, 4, 5, 6, 12] hX ?_ | refine awp_drawnG [0, 1, 4, 5, 6, 12] hX mixed ?_ | refine awp_ret ?_ | refine awp_skip ?_ | refine awp_exit ?_); (simp [go_sem]; try (refine ⟨by kernel_rfl, ?_⟩)))))
    refine awp_cond (b := false) (by simp [go_sem, h]; try omega) (fun h => by cases h) (fun _ => ?_)
    (repeat (first | refine awp_seq ?_ | refine awp_block ?_ | ((first | refine awp_runG [0, 1, 4, 5, 6, 12] hX ?_ | refine awp_drawnG [0, 1, 4, 5, 6, 12] hX mixed ?_ | refine awp_ret ?_ | refine awp_skip ?_ | refine awp_exit ?_); (simp [go_sem, h0, hq]; try (refine ⟨by kernel_rfl, ?_⟩)))))
end Go.Proofs.YtjgkjenbgadacaaDoor

