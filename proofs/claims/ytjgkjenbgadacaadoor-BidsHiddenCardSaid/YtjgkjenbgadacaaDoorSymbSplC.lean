/-
  Sorting places: merging, one place on the right.
-/
import Derived.Test.YtjgkjenbgadacaaDoorSymaSplC
set_option linter.all false
namespace Go.Proofs.YtjgkjenbgadacaaDoor
open Go.RowKit Go.Ab
attribute [local irreducible] AWP Go.Ab.Sub Means MeansH CallK CallG CallT CallGT CallU

set_option maxHeartbeats 4000000 in
set_option maxRecDepth 20000 in
theorem symB_m (Q A : List Int) (x : Int) (T R : List Int) (hA0 : 1 < A.length) (hA : A.Pairwise (bef (kf R))) (hlt : ∀ y ∈ A, y < x) (hx : 0 ≤ x ∧ x < R.length) (hr : ∀ y ∈ A, 0 ≤ y ∧ y < R.length) (hb : Q.length + A.length + 1 + T.length ≤ 100000) (hR : R.length ≤ 100000) (hok : okR R) :
    MeansH Tryd.prog 75 (sH (r4 (Q, A, [x], T)) R) [.ow 0, ii Q.length, ii (Q.length + A.length : Nat), ii (Q.length + A.length + 1 : Nat), clo] (.tup []) (sH (r3 Q (srt (kf R) (A ++ [x])) T) R) := by
  obtain ⟨a, ha⟩ : ∃ a, Q.length = a := ⟨_, rfl⟩
  obtain ⟨m, hm⟩ : ∃ m, a + A.length = m := ⟨_, rfl⟩
  obtain ⟨b, hbe⟩ : ∃ b, m + 1 = b := ⟨_, rfl⟩
  rw [ha, hm, hbe]
  have hma : (m : Int) - a = A.length := by omega
  have hma2 : ¬ (A.length : Int) = 1 := by omega
  have hma3 : ¬ A.length = 1 := by omega
  have hbm : (b : Int) - m = 1 := by omega
  have hDl := r4_len Q A [x] T
  rw [List.length_singleton] at hDl
  refine meansH_fn 3 220 [] Tryd.func75 rfl rfl rfl (by simp) (by decide) rfl fun X hX => ?_
  (repeat (first | refine awp_seq ?_ | refine awp_block ?_ | ((first | refine awp_runG [0, 1, 2, 3, 4, 10, 11, 12, 13, 14, 15, 16, 17, 18, 19, 20, 21, 22, 23, 24, 28, 33, 50, 58, 80, 85, 103, 110, 140, 151, 171, 185, 199, 213, 1000000, 1000001, 1000002] hX ?_ | refine awp_drawnG [0, 1, 2, 3, 4, 10, 11, 12, 13, 14, 15, 16, 17, 18, 19, 20, 21, 22, 23, 24, 28, 33, 50, 58, 80, 85, 103, 110, 140, 151, 171, 185, 199, 213, 1000000, 1000001, 1000002] hX mixed ?_ | refine awp_skip ?_ | refine awp_exit ?_); (simp [go_sem, hma, hma2, hma3]; (try simp (disch := omega) only [w64, td, tm]); try (refine ⟨by kernel_rfl, ?_⟩)))))
  try (simp [go_sem, hma, hma2, hma3]; try (refine ⟨by kernel_rfl, ?_⟩))
  refine awp_cond (b := false) (by simp [go_sem, hma3]; try omega) (fun h => by cases h) (fun _ => ?_)
  (repeat (first | refine awp_seq ?_ | refine awp_block ?_ | ((first | refine awp_runG [0, 1, 2, 3, 4, 10, 11, 12, 13, 14, 15, 16, 17, 18, 19, 20, 21, 22, 23, 24, 28, 33, 50, 58, 80, 85, 103, 110, 140, 151, 171, 185, 199, 213, 1000000, 1000001, 1000002] hX ?_ | refine awp_drawnG [0, 1, 2, 3, 4, 10, 11, 12, 13, 14, 15, 16, 17, 18, 19, 20, 21, 22, 23, 24, 28, 33, 50, 58, 80, 85, 103, 110, 140, 151, 171, 185, 199, 213, 1000000, 1000001, 1000002] hX mixed ?_ | refine awp_skip ?_ | refine awp_exit ?_); (simp [go_sem, hbm]; (try simp (disch := omega) only [w64, td, tm]); try (refine ⟨by kernel_rfl, ?_⟩)))))
  try (simp [go_sem, hbm]; try (refine ⟨by kernel_rfl, ?_⟩))
  refine awp_cond (b := true) (by simp [go_sem]) (fun _ => ?_) (fun h => by cases h)
  (repeat (first | refine awp_seq ?_ | refine awp_block ?_ | ((first | refine awp_runG [0, 1, 2, 3, 4, 10, 11, 12, 13, 14, 15, 16, 17, 18, 19, 20, 21, 22, 23, 24, 28, 33, 50, 58, 80, 85, 103, 110, 140, 151, 171, 185, 199, 213, 1000000, 1000001, 1000002] hX ?_ | refine awp_drawnG [0, 1, 2, 3, 4, 10, 11, 12, 13, 14, 15, 16, 17, 18, 19, 20, 21, 22, 23, 24, 28, 33, 50, 58, 80, 85, 103, 110, 140, 151, 171, 185, 199, 213, 1000000, 1000001, 1000002] hX mixed ?_ | refine awp_skip ?_ | refine awp_exit ?_); (simp [go_sem]; try (refine ⟨by kernel_rfl, ?_⟩)))))
  refine awp_loop (fun z : Nat × Nat => ⟨mkE [(0, .ow 0), (1, ii a), (2, ii m), (3, ii b), (4, clo), (14, ii (a + z.1 : Nat)), (15, ii (a + z.2 : Nat)), (1000000, .ow 0), (1000001, .ow 1), (1000002, .ow 2)], sH (r4 (Q, A, [x], T)) R⟩)
    (fun z => z.1 ≤ z.2 ∧ z.2 ≤ A.length ∧ (∀ e ∈ A.take z.1, bef (kf R) e x) ∧ (∀ e ∈ A.drop z.2, bef (kf R) x e)) (fun z => z.2 - z.1) (0, A.length) ?_ ?_ ?_
  · simp only [hm, Nat.add_zero]
    refine sub_of _ [.old 0 ⟨3, 1, (r4 (Q, A, [x], T)).map ii⟩, .old 1 ⟨25, 1, [.ow 2]⟩, .old 2 ⟨3, 1, R.map ii⟩] (by simp [go_sem]) ?_
    simp [go_sem]
  · exact ⟨by simp, by simp, by simp, by simp⟩
  · rintro ⟨i, j⟩ ⟨h1, h2, h3, h4⟩
    simp only [] at h1 h2 h3 h4
    (repeat (first | refine awp_seq ?_ | refine awp_block ?_ | ((first | refine awp_runG [0, 1, 2, 3, 4, 10, 11, 12, 13, 14, 15, 16, 17, 18, 19, 20, 21, 22, 23, 24, 28, 33, 50, 58, 80, 85, 103, 110, 140, 151, 171, 185, 199, 213, 1000000, 1000001, 1000002] hX ?_ | refine awp_drawnG [0, 1, 2, 3, 4, 10, 11, 12, 13, 14, 15, 16, 17, 18, 19, 20, 21, 22, 23, 24, 28, 33, 50, 58, 80, 85, 103, 110, 140, 151, 171, 185, 199, 213, 1000000, 1000001, 1000002] hX mixed ?_ | refine awp_skip ?_ | refine awp_exit ?_); (simp [go_sem]; try (refine ⟨by kernel_rfl, ?_⟩)))))
    refine awp_cond (b := decide (i < j)) (by simp [go_sem]; try omega) (fun hc => ?_) (fun hc => ?_)
    · simp at hc
      obtain ⟨h, hh⟩ : ∃ h, (i + j) / 2 = h := ⟨_, rfl⟩
      obtain ⟨P, hPe⟩ : ∃ P, a + h = P := ⟨_, rfl⟩
      have hhA : h < A.length := by omega
      have hwE := w64 (x := (a : Int) + i + (a + j)) (by omega) (by omega)
      have hP : IntKind.i64.wrap ((IntKind.u64.wrap ((a : Int) + i + (a + j))).fdiv 2) = (P : Int) := by
        have := mid_eq (a + i) (a + j) (by omega)
        simp only [Int.natCast_add] at this
        rw [this]; omega
      have hPl : P < (r4 (Q, A, [x], T)).length := by omega
      have hml : m < (r4 (Q, A, [x], T)).length := by omega
      have hPv : (r4 (Q, A, [x], T))[P] = A[h] := by
        have := r4_A (Q := Q) (B := [x]) (T := T) hhA (by omega)
        rw [← this]; congr 1; omega
      have hmv : (r4 (Q, A, [x], T))[m] = x := by
        have := r4_B (Q := Q) (A := A) (B := [x]) (T := T) (i := 0) (by simp) (by omega)
        simp only [List.getElem_cons_zero] at this
        refine Eq.trans ?_ this; congr 1; omega
      have hyr := hr A[h] (List.getElem_mem hhA)
      have hxy := hlt A[h] (List.getElem_mem hhA)
      have hcm := clo_m R hok x A[h] hx hyr
      have hneg := cmp_neg R x A[h]
      have t1 := fun q => take_bef (x := x) hA hhA q
      have t2 := fun q => drop_bef (x := x) hA hhA q
      have hbef : bef (kf R) x A[h] ↔ cmpC R x A[h] < 0 := by rw [hneg]; unfold bef; omega
      have hbef2 : ¬ bef (kf R) x A[h] → bef (kf R) A[h] x := fun q => (bef_total (by omega)).resolve_left q
      obtain ⟨y, hy⟩ : ∃ y, A[h] = y := ⟨_, rfl⟩
      rw [hy] at hPv hcm hbef hbef2 t1 t2
      generalize r4 (Q, A, [x], T) = D at *
      (repeat (first | refine awp_seq ?_ | refine awp_block ?_ | ((first | refine awp_runG [0, 1, 2, 3, 4, 10, 11, 12, 13, 14, 15, 16, 17, 18, 19, 20, 21, 22, 23, 24, 28, 33, 50, 58, 80, 85, 103, 110, 140, 151, 171, 185, 199, 213, 1000000, 1000001, 1000002] hX ?_ | refine awp_drawnG [0, 1, 2, 3, 4, 10, 11, 12, 13, 14, 15, 16, 17, 18, 19, 20, 21, 22, 23, 24, 28, 33, 50, 58, 80, 85, 103, 110, 140, 151, 171, 185, 199, 213, 1000000, 1000001, 1000002] hX mixed ?_ | refine awp_skip ?_ | refine awp_exit ?_); (simp [go_sem, hwE, hP, hPl, hml, hPv, hmv]; try (refine ⟨by kernel_rfl, ?_⟩)))))
      (repeat refine And.intro (by first | omega | (unfold maxLen; omega) | kernel_rfl | (refine ⟨by first | omega | (unfold maxLen; omega), by first | omega | (unfold maxLen; omega)⟩) | grind) ?_)
      try (simp [go_sem, hwE, hP, hPl, hml, hPv, hmv]; try (refine ⟨by kernel_rfl, ?_⟩))
      first | refine callH_intro [1, 2] (hcm) (by simp [go_sem]) ?_ | refine callTQ_intro [1, 2] (hcm) (by simp [go_sem]) ?_ | refine callTE_intro [1, 2] (hcm) (by simp [go_sem]) ?_
      try (simp [go_sem, hwE, hP, hPl, hml, hPv, hmv]; try (refine ⟨by kernel_rfl, ?_⟩))
      refine awp_cond (b := !decide (cmpC R x y < 0)) (by simp [go_sem]; try omega) (fun hd => ?_) (fun hd => ?_)
      · have hd : ¬ cmpC R x y < 0 := by simpa using hd
        (repeat (first | refine awp_seq ?_ | refine awp_block ?_ | ((first | refine awp_runG [0, 1, 2, 3, 4, 10, 11, 12, 13, 14, 15, 16, 17, 18, 19, 20, 21, 22, 23, 24, 28, 33, 50, 58, 80, 85, 103, 110, 140, 151, 171, 185, 199, 213, 1000000, 1000001, 1000002] hX ?_ | refine awp_drawnG [0, 1, 2, 3, 4, 10, 11, 12, 13, 14, 15, 16, 17, 18, 19, 20, 21, 22, 23, 24, 28, 33, 50, 58, 80, 85, 103, 110, 140, 151, 171, 185, 199, 213, 1000000, 1000001, 1000002] hX mixed ?_ | refine awp_skip ?_ | refine awp_exit ?_); (simp [go_sem]; (try simp (disch := omega) only [w64, td, tm]); try (refine ⟨by kernel_rfl, ?_⟩)))))
        refine ⟨h + 1, j, ⟨by omega, h2, t1 (hbef2 fun q => hd (hbef.1 q)), h4⟩, by omega, ?_⟩
        refine sub_of _ [.old 0 ⟨3, 1, D.map ii⟩, .old 1 ⟨25, 1, [.ow 2]⟩, .old 2 ⟨3, 1, R.map ii⟩] (by simp [go_sem]) ?_
        simp [go_sem]
        try omega
      · have hd : cmpC R x y < 0 := by simpa using hd
        (repeat (first | refine awp_seq ?_ | refine awp_block ?_ | ((first | refine awp_runG [0, 1, 2, 3, 4, 10, 11, 12, 13, 14, 15, 16, 17, 18, 19, 20, 21, 22, 23, 24, 28, 33, 50, 58, 80, 85, 103, 110, 140, 151, 171, 185, 199, 213, 1000000, 1000001, 1000002] hX ?_ | refine awp_drawnG [0, 1, 2, 3, 4, 10, 11, 12, 13, 14, 15, 16, 17, 18, 19, 20, 21, 22, 23, 24, 28, 33, 50, 58, 80, 85, 103, 110, 140, 151, 171, 185, 199, 213, 1000000, 1000001, 1000002] hX mixed ?_ | refine awp_skip ?_ | refine awp_exit ?_); (simp [go_sem]; (try simp (disch := omega) only [w64, td, tm]); try (refine ⟨by kernel_rfl, ?_⟩)))))
        refine ⟨i, h, ⟨by omega, by omega, h3, t2 (hbef.2 hd)⟩, by omega, ?_⟩
        refine sub_of _ [.old 0 ⟨3, 1, D.map ii⟩, .old 1 ⟨25, 1, [.ow 2]⟩, .old 2 ⟨3, 1, R.map ii⟩] (by simp [go_sem]) ?_
        simp [go_sem]
        try omega
    · have hij : i = j := by simp at hc; omega
      subst hij
      have hfin := rowX_srt' (pre := Q) (x := x) (post := T) (l := A ++ [x]) (List.perm_append_singleton x A).symm hA h3 h4
      rw [r4_last] at *
      (repeat (first | refine awp_seq ?_ | refine awp_block ?_ | ((first | refine awp_runG [0, 1, 2, 3, 4, 10, 11, 12, 13, 14, 15, 16, 17, 18, 19, 20, 21, 22, 23, 24, 28, 33, 50, 58, 80, 85, 103, 110, 140, 151, 171, 185, 199, 213, 1000000, 1000001, 1000002] hX ?_ | refine awp_drawnG [0, 1, 2, 3, 4, 10, 11, 12, 13, 14, 15, 16, 17, 18, 19, 20, 21, 22, 23, 24, 28, 33, 50, 58, 80, 85, 103, 110, 140, 151, 171, 185, 199, 213, 1000000, 1000001, 1000002] hX mixed ?_ | refine awp_skip ?_ | refine awp_exit ?_); (simp [go_sem]; try (refine ⟨by kernel_rfl, ?_⟩)))))
      refine awp_loop (fun k : Nat => ⟨mkE [(0, .ow 0), (14, ii (a + i : Nat)), (17, ii (a + k : Nat)), (1000000, .ow 0), (1000001, .ow 1), (1000002, .ow 2)], sH (rowX Q A x T k) R⟩) (fun k => i ≤ k ∧ k ≤ A.length) (fun k => k) A.length ?_ ?_ ?_
      · rw [hm]
        refine sub_of _ [.old 0 ⟨3, 1, (rowX Q A x T A.length).map ii⟩, .old 1 ⟨25, 1, [.ow 2]⟩, .old 2 ⟨3, 1, R.map ii⟩] (by simp [go_sem]) ?_
        simp [go_sem]
      · exact ⟨h2, Nat.le_refl _⟩
      · rintro k ⟨hik, hk⟩
        (repeat (first | refine awp_seq ?_ | refine awp_block ?_ | ((first | refine awp_runG [0, 1, 2, 3, 4, 10, 11, 12, 13, 14, 15, 16, 17, 18, 19, 20, 21, 22, 23, 24, 28, 33, 50, 58, 80, 85, 103, 110, 140, 151, 171, 185, 199, 213, 1000000, 1000001, 1000002] hX ?_ | refine awp_drawnG [0, 1, 2, 3, 4, 10, 11, 12, 13, 14, 15, 16, 17, 18, 19, 20, 21, 22, 23, 24, 28, 33, 50, 58, 80, 85, 103, 110, 140, 151, 171, 185, 199, 213, 1000000, 1000001, 1000002] hX mixed ?_ | refine awp_skip ?_ | refine awp_exit ?_); (simp [go_sem]; try (refine ⟨by kernel_rfl, ?_⟩)))))
        refine awp_cond (b := decide (i < k)) (by simp [go_sem]; try omega) (fun hd => ?_) (fun hd => ?_)
        · simp at hd
          obtain ⟨c, hc⟩ : ∃ c, k = c + 1 := ⟨k - 1, by omega⟩
          subst hc
          have hkA : c < A.length := by omega
          have hlen := rowX_len (pre := Q) (x := x) (post := T) (s := A) (k := c + 1) (by omega)
          obtain ⟨p, hp⟩ : ∃ p, a + c = p := ⟨_, rfl⟩
          have hp1 : a + (c + 1) = p + 1 := by omega
          have hp' : (a : Int) + (c + 1) = p + 1 := by omega
          have hi1 : p + 1 < (rowX Q A x T (c + 1)).length := by omega
          have hi2 : p < (rowX Q A x T (c + 1)).length := by omega
          have hv1 : (rowX Q A x T (c + 1))[p + 1] = x := by
            have := rowX_at (pre := Q) (s := A) (x := x) (post := T) (k := c + 1) (by omega) (by omega)
            refine Eq.trans ?_ this; congr 1; omega
          have hv2 : (rowX Q A x T (c + 1))[p] = A[c] := by
            have := rowX_prev (pre := Q) (s := A) (x := x) (post := T) (k := c) hkA (by omega)
            refine Eq.trans ?_ this; congr 1; omega
          have hsw := rowX_swap (pre := Q) (x := x) (post := T) hkA
          rw [show Q.length + c = p by omega, show Q.length + (c + 1) = p + 1 by omega] at hsw
          obtain ⟨y, hy⟩ : ∃ y, A[c] = y := ⟨_, rfl⟩
          rw [hy] at hv2 hsw
          have hpb : p + 1 ≤ 100000 := by omega
          have ht1 : ((p : Int) + 1).toNat = p + 1 := by omega
          generalize rowX Q A x T (c + 1) = D at *
          have hwp := w64 (x := (p : Int)) (by omega) (by omega)
          have hwp1 := w64 (x := (p : Int) + 1) (by omega) (by omega)
          have hns : nth ((D.map ii).set (p + 1) (ii y)) p = ii y := by
            rw [← List.map_set, nth_map ii (by simpa using hi2), List.getElem_set_ne (by omega), hv2]
          have hzs : zoneEs (((D.map ii).set (p + 1) (ii y)).set p (ii x)) = true := by
            rw [← List.map_set, ← List.map_set]; exact zoneEs_map _ _ (fun _ => rfl)
          (repeat (first | refine awp_seq ?_ | refine awp_block ?_ | ((first | refine awp_runG [0, 1, 2, 3, 4, 10, 11, 12, 13, 14, 15, 16, 17, 18, 19, 20, 21, 22, 23, 24, 28, 33, 50, 58, 80, 85, 103, 110, 140, 151, 171, 185, 199, 213, 1000000, 1000001, 1000002] hX ?_ | refine awp_drawnG [0, 1, 2, 3, 4, 10, 11, 12, 13, 14, 15, 16, 17, 18, 19, 20, 21, 22, 23, 24, 28, 33, 50, 58, 80, 85, 103, 110, 140, 151, 171, 185, 199, 213, 1000000, 1000001, 1000002] hX mixed ?_ | refine awp_skip ?_ | refine awp_exit ?_); (simp [go_sem, hp', hwp, hwp1, hi1, hi2, hv1, hv2, ht1]; try (refine ⟨by kernel_rfl, ?_⟩)))))
          (repeat refine And.intro (by first | omega | (unfold maxLen; omega) | kernel_rfl | (refine ⟨by first | omega | (unfold maxLen; omega), by first | omega | (unfold maxLen; omega)⟩) | grind) ?_)
          (repeat (first | refine awp_seq ?_ | refine awp_block ?_ | ((first | refine awp_runG [0, 1, 2, 3, 4, 10, 11, 12, 13, 14, 15, 16, 17, 18, 19, 20, 21, 22, 23, 24, 28, 33, 50, 58, 80, 85, 103, 110, 140, 151, 171, 185, 199, 213, 1000000, 1000001, 1000002] hX ?_ | refine awp_drawnG [0, 1, 2, 3, 4, 10, 11, 12, 13, 14, 15, 16, 17, 18, 19, 20, 21, 22, 23, 24, 28, 33, 50, 58, 80, 85, 103, 110, 140, 151, 171, 185, 199, 213, 1000000, 1000001, 1000002] hX mixed ?_ | refine awp_skip ?_ | refine awp_exit ?_); (simp [go_sem, hp', hwp, hwp1, hi1, hi2, hv1, hv2, ht1]; (try simp (disch := omega) only [w64, td, tm]); try (refine ⟨by kernel_rfl, ?_⟩)))))
          refine ⟨c, ⟨by omega, by omega⟩, by omega, ?_⟩
          rw [← hsw]
          refine sub_of _ [.old 0 ⟨3, 1, ((D.set (p + 1) y).set p x).map ii⟩, .old 1 ⟨25, 1, [.ow 2]⟩, .old 2 ⟨3, 1, R.map ii⟩] (by simp [go_sem, hns, hzs]) ?_
          simp [go_sem]
          try omega
        · have : k = i := by simp at hd; omega
          subst this
          rw [hfin]
          (repeat (first | refine awp_seq ?_ | refine awp_block ?_ | ((first | refine awp_runG [0, 1, 2, 3, 4, 10, 11, 12, 13, 14, 15, 16, 17, 18, 19, 20, 21, 22, 23, 24, 28, 33, 50, 58, 80, 85, 103, 110, 140, 151, 171, 185, 199, 213, 1000000, 1000001, 1000002] hX ?_ | refine awp_drawnG [0, 1, 2, 3, 4, 10, 11, 12, 13, 14, 15, 16, 17, 18, 19, 20, 21, 22, 23, 24, 28, 33, 50, 58, 80, 85, 103, 110, 140, 151, 171, 185, 199, 213, 1000000, 1000001, 1000002] hX mixed ?_ | refine awp_skip ?_ | refine awp_exit ?_); (simp [go_sem]; try (refine ⟨by kernel_rfl, ?_⟩)))))
          refine awp_ret ?_; (try simp only [thenQ, blkQ, loopQ]); refine retH_ret [(1000000, .ow 0), (1000001, .ow 1), (1000002, .ow 2)] [.old 0 ⟨3, 1, (r3 Q (srt (kf R) (A ++ [x])) T).map ii⟩, .old 1 ⟨25, 1, [.ow 2]⟩, .old 2 ⟨3, 1, R.map ii⟩] ?_
          simp [go_sem]

end Go.Proofs.YtjgkjenbgadacaaDoor
