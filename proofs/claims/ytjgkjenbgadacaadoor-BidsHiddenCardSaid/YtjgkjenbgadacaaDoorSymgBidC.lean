/-
  Sorting places: merging.
-/
import Derived.Test.YtjgkjenbgadacaaDoorSymbBidC
set_option linter.all false
namespace Go.Proofs.YtjgkjenbgadacaaDoor.B
open Go.RowKit Go.Ab
attribute [local irreducible] AWP Go.Ab.Sub Means MeansH CallK CallG CallT CallGT CallU

theorem pw_take {K : Int → Int} {A B : List Int} {s e : Nat} (hA : A.Pairwise (bef K)) (hB : B.Pairwise (bef K)) (h : s = 0 ∨ B.length ≤ e ∨ (∃ (h1 : s - 1 < A.length) (h2 : e < B.length), bef K A[s - 1] B[e])) : ∀ x ∈ A.take s, ∀ y ∈ B.drop e, bef K x y := by
  intro x hx y hy
  rcases h with h | h | ⟨h1, h2, h⟩
  · subst h; simp at hx
  · rw [List.drop_of_length_le h] at hy; cases hy
  · by_cases hs : s = 0
    · subst hs; simp at hx
    · have := take_bef hA h1 h x (by rw [show s - 1 + 1 = s by omega]; exact hx)
      exact drop_bef hB h2 this y hy

set_option maxHeartbeats 16000000 in
set_option maxRecDepth 20000 in
theorem sym_m (R : List Bd) (hR : R.length ≤ 100000) (hok : okR R) : ∀ (N : Nat) (Q A B T : List Int), A.length + B.length ≤ N → 0 < A.length → 0 < B.length → A.Pairwise (bef (kf R)) → B.Pairwise (bef (kf R)) → (∀ x ∈ A, ∀ y ∈ B, x < y) → (∀ x ∈ A, 0 ≤ x ∧ x < R.length) → (∀ x ∈ B, 0 ≤ x ∧ x < R.length) → Q.length + A.length + B.length + T.length ≤ 100000 →
    MeansH Tryd.prog 75 (sH (r4 (Q, A, B, T)) R) [.ow 0, ii Q.length, ii (Q.length + A.length : Nat), ii (Q.length + A.length + B.length : Nat), clo] (.tup []) (sH (r3 Q (srt (kf R) (A ++ B)) T) R)
  | 0, Q, A, B, T => by intro h1 h2; omega
  | N + 1, Q, A, B, T => by
    intro hN hA0 hB0 hA hB hlt hra hrb hb
    by_cases hA1 : A.length = 1
    · obtain ⟨x, rfl⟩ := List.length_eq_one_iff.1 hA1
      exact symA_m Q x B T R hB0 hB (fun y hy => hlt x (by simp) y hy) (hra x (by simp)) hrb hb hR hok
    by_cases hB1 : B.length = 1
    · obtain ⟨x, rfl⟩ := List.length_eq_one_iff.1 hB1
      exact symB_m Q A x T R (by omega) hA (fun y hy => hlt y hy x (by simp)) (hrb x (by simp)) hra hb hR hok
    have IH := sym_m R hR hok N
    obtain ⟨p, hp⟩ : ∃ p, A.length = p := ⟨_, rfl⟩
    obtain ⟨q, hq⟩ : ∃ q, B.length = q := ⟨_, rfl⟩
    obtain ⟨a, ha⟩ : ∃ a, Q.length = a := ⟨_, rfl⟩
    obtain ⟨m, hm⟩ : ∃ m, a + p = m := ⟨_, rfl⟩
    obtain ⟨b, hbe⟩ : ∃ b, m + q = b := ⟨_, rfl⟩
    obtain ⟨H, hH⟩ : ∃ H, (p + q) / 2 = H := ⟨_, rfl⟩
    obtain ⟨mid, hmid⟩ : ∃ mid, a + H = mid := ⟨_, rfl⟩
    obtain ⟨n, hn⟩ : ∃ n, mid + m = n := ⟨_, rfl⟩
    obtain ⟨v, hv⟩ : ∃ v, v + 1 = n := ⟨n - 1, by omega⟩
    obtain ⟨lo, hi, hlh⟩ : ∃ lo hi, (H < p ∧ lo + q = H ∧ hi = H) ∨ (¬ H < p ∧ lo = 0 ∧ hi = p) := by
      by_cases h : H < p
      · exact ⟨H - q, H, .inl ⟨h, by omega, rfl⟩⟩
      · exact ⟨0, p, .inr ⟨h, rfl, rfl⟩⟩
    obtain ⟨Z, hZ⟩ : ∃ Z, srt (kf R) (A ++ B) = Z := ⟨_, rfl⟩
    rw [ha, hp, hq, hm, hbe, hZ]
    rw [hp] at hA0 hA1 hN; rw [hq] at hB0 hB1 hN
    have hma : (m : Int) - a = p := by omega
    have hbm : (b : Int) - m = q := by omega
    have hp1 : ¬ (p : Int) = 1 := by omega
    have hq1 : ¬ (q : Int) = 1 := by omega
    have hDl := r4_len Q A B T
    have hbb : b + T.length ≤ 100000 := by omega
    have hwE := w64 (x := (a : Int) + b) (by omega) (by omega)
    have hwM : IntKind.i64.wrap ((IntKind.u64.wrap ((a : Int) + b)).fdiv 2) = (mid : Int) := by
      rw [mid_eq a b (by omega)]; omega
    have hwn : (mid : Int) + m = n := by omega
    have hwn2 := w64 (x := (n : Int)) (by omega) (by omega)
    refine meansH_fn 2 220 [] Tryd.func75 rfl rfl rfl (by simp) (by decide) rfl fun X hX => ?_
    (repeat (first | refine awp_seq ?_ | refine awp_block ?_ | ((first | refine awp_runG [0, 1, 2, 3, 4, 10, 11, 12, 13, 14, 15, 16, 17, 18, 19, 20, 21, 22, 23, 24, 28, 33, 50, 58, 80, 85, 103, 110, 140, 151, 171, 185, 199, 213, 1000000, 1000001] hX ?_ | refine awp_drawnG [0, 1, 2, 3, 4, 10, 11, 12, 13, 14, 15, 16, 17, 18, 19, 20, 21, 22, 23, 24, 28, 33, 50, 58, 80, 85, 103, 110, 140, 151, 171, 185, 199, 213, 1000000, 1000001] hX mixed ?_ | refine awp_skip ?_ | refine awp_exit ?_); (simp [go_sem, hma, hA1, hp1]; (try simp (disch := omega) only [w64, td, tm]); try (refine ⟨by kernel_rfl, ?_⟩)))))
    try (simp [go_sem, hma, hA1, hp1]; try (refine ⟨by kernel_rfl, ?_⟩))
    refine awp_cond (b := false) (by simp [go_sem, hA1]; try omega) (fun h => by cases h) (fun _ => ?_)
    (repeat (first | refine awp_seq ?_ | refine awp_block ?_ | ((first | refine awp_runG [0, 1, 2, 3, 4, 10, 11, 12, 13, 14, 15, 16, 17, 18, 19, 20, 21, 22, 23, 24, 28, 33, 50, 58, 80, 85, 103, 110, 140, 151, 171, 185, 199, 213, 1000000, 1000001] hX ?_ | refine awp_drawnG [0, 1, 2, 3, 4, 10, 11, 12, 13, 14, 15, 16, 17, 18, 19, 20, 21, 22, 23, 24, 28, 33, 50, 58, 80, 85, 103, 110, 140, 151, 171, 185, 199, 213, 1000000, 1000001] hX mixed ?_ | refine awp_skip ?_ | refine awp_exit ?_); (simp [go_sem, hbm, hB1, hq1]; (try simp (disch := omega) only [w64, td, tm]); try (refine ⟨by kernel_rfl, ?_⟩)))))
    try (simp [go_sem, hbm, hB1, hq1]; try (refine ⟨by kernel_rfl, ?_⟩))
    refine awp_cond (b := false) (by simp [go_sem, hB1]; try omega) (fun h => by cases h) (fun _ => ?_)
    (repeat (first | refine awp_seq ?_ | refine awp_block ?_ | ((first | refine awp_runG [0, 1, 2, 3, 4, 10, 11, 12, 13, 14, 15, 16, 17, 18, 19, 20, 21, 22, 23, 24, 28, 33, 50, 58, 80, 85, 103, 110, 140, 151, 171, 185, 199, 213, 1000000, 1000001] hX ?_ | refine awp_drawnG [0, 1, 2, 3, 4, 10, 11, 12, 13, 14, 15, 16, 17, 18, 19, 20, 21, 22, 23, 24, 28, 33, 50, 58, 80, 85, 103, 110, 140, 151, 171, 185, 199, 213, 1000000, 1000001] hX mixed ?_ | refine awp_skip ?_ | refine awp_exit ?_); (simp [go_sem, hwE, hwM, hwn, hwn2]; try (refine ⟨by kernel_rfl, ?_⟩)))))
    refine awp_cut ⟨mkE [(0, .ow 0), (1, ii a), (2, ii m), (3, ii b), (4, clo), (18, ii mid), (19, ii n), (20, ii (a + lo : Nat)), (21, ii (a + hi : Nat)), (1000000, .ow 0), (1000001, .ow 1)], sH (r4 (Q, A, B, T)) R⟩ ?_ ?_
    · (repeat (first | refine awp_seq ?_ | refine awp_block ?_ | ((first | refine awp_runG [0, 1, 2, 3, 4, 10, 11, 12, 13, 14, 15, 16, 17, 18, 19, 20, 21, 22, 23, 24, 28, 33, 50, 58, 80, 85, 103, 110, 140, 151, 171, 185, 199, 213, 1000000, 1000001] hX ?_ | refine awp_drawnG [0, 1, 2, 3, 4, 10, 11, 12, 13, 14, 15, 16, 17, 18, 19, 20, 21, 22, 23, 24, 28, 33, 50, 58, 80, 85, 103, 110, 140, 151, 171, 185, 199, 213, 1000000, 1000001] hX mixed ?_ | refine awp_skip ?_ | refine awp_exit ?_); (simp [go_sem]; try (refine ⟨by kernel_rfl, ?_⟩)))))
      refine awp_cond (b := decide (H < p)) (by simp [go_sem]; try omega) (fun hc => ?_) (fun hc => ?_)
      · simp at hc
        obtain ⟨e1, e2⟩ : lo + q = H ∧ hi = H := by omega
        have hw1 : IntKind.i64.wrap ((n : Int) - b) = ((a + lo : Nat) : Int) := by rw [w64 (by omega) (by omega)]; omega
        have hw2 : (mid : Int) = ((a + hi : Nat) : Int) := by omega
        (repeat (first | refine awp_seq ?_ | refine awp_block ?_ | ((first | refine awp_runG [0, 1, 2, 3, 4, 10, 11, 12, 13, 14, 15, 16, 17, 18, 19, 20, 21, 22, 23, 24, 28, 33, 50, 58, 80, 85, 103, 110, 140, 151, 171, 185, 199, 213, 1000000, 1000001] hX ?_ | refine awp_drawnG [0, 1, 2, 3, 4, 10, 11, 12, 13, 14, 15, 16, 17, 18, 19, 20, 21, 22, 23, 24, 28, 33, 50, 58, 80, 85, 103, 110, 140, 151, 171, 185, 199, 213, 1000000, 1000001] hX mixed ?_ | refine awp_skip ?_ | refine awp_exit ?_); (simp [go_sem, hw1]; try (refine ⟨by kernel_rfl, ?_⟩)))))
        refine sub_of _ [.old 0 ⟨3, 1, (r4 (Q, A, B, T)).map ii⟩, .old 1 ⟨22, 1, [bsl R]⟩] (by simp [go_sem]) ?_
        simp [go_sem]
        try omega
      · simp at hc
        obtain ⟨e1, e2⟩ : lo = 0 ∧ hi = p := by omega
        (repeat (first | refine awp_seq ?_ | refine awp_block ?_ | ((first | refine awp_runG [0, 1, 2, 3, 4, 10, 11, 12, 13, 14, 15, 16, 17, 18, 19, 20, 21, 22, 23, 24, 28, 33, 50, 58, 80, 85, 103, 110, 140, 151, 171, 185, 199, 213, 1000000, 1000001] hX ?_ | refine awp_drawnG [0, 1, 2, 3, 4, 10, 11, 12, 13, 14, 15, 16, 17, 18, 19, 20, 21, 22, 23, 24, 28, 33, 50, 58, 80, 85, 103, 110, 140, 151, 171, 185, 199, 213, 1000000, 1000001] hX mixed ?_ | refine awp_skip ?_ | refine awp_exit ?_); (simp [go_sem]; try (refine ⟨by kernel_rfl, ?_⟩)))))
        refine sub_of _ [.old 0 ⟨3, 1, (r4 (Q, A, B, T)).map ii⟩, .old 1 ⟨22, 1, [bsl R]⟩] (by simp [go_sem]) ?_
        simp [go_sem]
        try omega
    have hnv : IntKind.i64.wrap ((n : Int) - 1) = (v : Int) := by rw [w64 (by omega) (by omega)]; omega
    (repeat (first | refine awp_seq ?_ | refine awp_block ?_ | ((first | refine awp_runG [0, 1, 2, 3, 4, 10, 11, 12, 13, 14, 15, 16, 17, 18, 19, 20, 21, 22, 23, 24, 28, 33, 50, 58, 80, 85, 103, 110, 140, 151, 171, 185, 199, 213, 1000000, 1000001] hX ?_ | refine awp_drawnG [0, 1, 2, 3, 4, 10, 11, 12, 13, 14, 15, 16, 17, 18, 19, 20, 21, 22, 23, 24, 28, 33, 50, 58, 80, 85, 103, 110, 140, 151, 171, 185, 199, 213, 1000000, 1000001] hX mixed ?_ | refine awp_skip ?_ | refine awp_exit ?_); (simp [go_sem, hnv]; try (refine ⟨by kernel_rfl, ?_⟩)))))
    refine awp_loop (fun z : Nat × Nat => ⟨mkE [(0, .ow 0), (1, ii a), (2, ii m), (3, ii b), (4, clo), (18, ii mid), (19, ii n), (20, ii (a + z.1 : Nat)), (21, ii (a + z.2 : Nat)), (22, ii v), (1000000, .ow 0), (1000001, .ow 1)], sH (r4 (Q, A, B, T)) R⟩)
      (fun z => lo ≤ z.1 ∧ z.1 ≤ z.2 ∧ z.2 ≤ hi ∧ (lo < z.1 → bef (kf R) (A.getD (z.1 - 1) 0) (B.getD (H - z.1) 0)) ∧ (z.2 < hi → bef (kf R) (B.getD (H - 1 - z.2) 0) (A.getD z.2 0))) (fun z => z.2 - z.1) (lo, hi) ?_ ?_ ?_
    · refine sub_of _ [.old 0 ⟨3, 1, (r4 (Q, A, B, T)).map ii⟩, .old 1 ⟨22, 1, [bsl R]⟩] (by simp [go_sem]) ?_
      simp [go_sem]
    · refine ⟨Nat.le_refl _, ?_, Nat.le_refl _, fun h => absurd h (Nat.lt_irrefl _), fun h => absurd h (Nat.lt_irrefl _)⟩
      simp only []; omega
    · rintro ⟨s, r⟩ ⟨g1, g2, g3, g4, g5⟩
      simp only [] at g1 g2 g3 g4 g5
      (repeat (first | refine awp_seq ?_ | refine awp_block ?_ | ((first | refine awp_runG [0, 1, 2, 3, 4, 10, 11, 12, 13, 14, 15, 16, 17, 18, 19, 20, 21, 22, 23, 24, 28, 33, 50, 58, 80, 85, 103, 110, 140, 151, 171, 185, 199, 213, 1000000, 1000001] hX ?_ | refine awp_drawnG [0, 1, 2, 3, 4, 10, 11, 12, 13, 14, 15, 16, 17, 18, 19, 20, 21, 22, 23, 24, 28, 33, 50, 58, 80, 85, 103, 110, 140, 151, 171, 185, 199, 213, 1000000, 1000001] hX mixed ?_ | refine awp_skip ?_ | refine awp_exit ?_); (simp [go_sem]; try (refine ⟨by kernel_rfl, ?_⟩)))))
      refine awp_cond (b := decide (s < r)) (by simp [go_sem]; try omega) (fun hc => ?_) (fun hc => ?_)
      · simp at hc
        obtain ⟨c, hce⟩ : ∃ c, (s + r) / 2 = c := ⟨_, rfl⟩
        obtain ⟨P, hPe⟩ : ∃ P, a + c = P := ⟨_, rfl⟩
        obtain ⟨f, hf⟩ : ∃ f, H - 1 - c = f := ⟨_, rfl⟩
        obtain ⟨P1, hP1e⟩ : ∃ P1, m + f = P1 := ⟨_, rfl⟩
        have hcA : c < A.length := by omega
        have hfB : f < B.length := by omega
        have hwF := w64 (x := (a : Int) + s + (a + r)) (by omega) (by omega)
        have hP : IntKind.i64.wrap ((IntKind.u64.wrap ((a : Int) + s + (a + r))).fdiv 2) = (P : Int) := by
          have := mid_eq (a + s) (a + r) (by omega)
          simp only [Int.natCast_add] at this
          rw [this]; omega
        have hvP : (v : Int) - P = P1 := by omega
        have hwP1 := w64 (x := (P1 : Int)) (by omega) (by omega)
        have hPl : P < (r4 (Q, A, B, T)).length := by omega
        have hP1l : P1 < (r4 (Q, A, B, T)).length := by omega
        have hPv : (r4 (Q, A, B, T))[P] = A[c] := by
          have := r4_A (Q := Q) (B := B) (T := T) hcA (by omega)
          rw [← this]; congr 1; omega
        have hP1v : (r4 (Q, A, B, T))[P1] = B[f] := by
          have := r4_B (Q := Q) (A := A) (T := T) hfB (by omega)
          rw [← this]; congr 1; omega
        have hxr := hra A[c] (List.getElem_mem hcA)
        have hyr := hrb B[f] (List.getElem_mem hfB)
        have hxy := hlt A[c] (List.getElem_mem hcA) B[f] (List.getElem_mem hfB)
        have gA : A[c]?.getD 0 = A[c] := by rw [List.getElem?_eq_getElem hcA]; rfl
        have gB : B[f]?.getD 0 = B[f] := by rw [List.getElem?_eq_getElem hfB]; rfl
        have hcm := clo_m R hok B[f] A[c] hyr hxr
        have hneg := cmp_neg R B[f] A[c]
        have hbef : bef (kf R) B[f] A[c] ↔ cmpC R B[f] A[c] < 0 := by rw [hneg]; unfold bef; omega
        have hbef2 : ¬ bef (kf R) B[f] A[c] → bef (kf R) A[c] B[f] := fun q => (bef_total (by omega)).resolve_left q
        obtain ⟨x, hx⟩ : ∃ x, A[c] = x := ⟨_, rfl⟩
        obtain ⟨y, hy⟩ : ∃ y, B[f] = y := ⟨_, rfl⟩
        rw [hx] at hPv hcm hbef hbef2 gA
        rw [hy] at hP1v hcm hbef hbef2 gB
        generalize r4 (Q, A, B, T) = D at *
        (repeat (first | refine awp_seq ?_ | refine awp_block ?_ | ((first | refine awp_runG [0, 1, 2, 3, 4, 10, 11, 12, 13, 14, 15, 16, 17, 18, 19, 20, 21, 22, 23, 24, 28, 33, 50, 58, 80, 85, 103, 110, 140, 151, 171, 185, 199, 213, 1000000, 1000001] hX ?_ | refine awp_drawnG [0, 1, 2, 3, 4, 10, 11, 12, 13, 14, 15, 16, 17, 18, 19, 20, 21, 22, 23, 24, 28, 33, 50, 58, 80, 85, 103, 110, 140, 151, 171, 185, 199, 213, 1000000, 1000001] hX mixed ?_ | refine awp_skip ?_ | refine awp_exit ?_); (simp [go_sem, hwF, hP, hvP, hwP1, hPl, hP1l, hPv, hP1v]; try (refine ⟨by kernel_rfl, ?_⟩)))))
        (repeat refine And.intro (by first | omega | (unfold maxLen; omega) | kernel_rfl | (refine ⟨by first | omega | (unfold maxLen; omega), by first | omega | (unfold maxLen; omega)⟩) | grind) ?_)
        try (simp [go_sem, hwF, hP, hvP, hwP1, hPl, hP1l, hPv, hP1v]; try (refine ⟨by kernel_rfl, ?_⟩))
        first | refine callH_intro [1] (hcm) (by simp [go_sem]) ?_ | refine callTQ_intro [1] (hcm) (by simp [go_sem]) ?_ | refine callTE_intro [1] (hcm) (by simp [go_sem]) ?_
        try (simp [go_sem, hwF, hP, hvP, hwP1, hPl, hP1l, hPv, hP1v]; try (refine ⟨by kernel_rfl, ?_⟩))
        refine awp_cond (b := !decide (cmpC R y x < 0)) (by simp [go_sem]; try omega) (fun hd => ?_) (fun hd => ?_)
        · have hd : ¬ cmpC R y x < 0 := by simpa using hd
          (repeat (first | refine awp_seq ?_ | refine awp_block ?_ | ((first | refine awp_runG [0, 1, 2, 3, 4, 10, 11, 12, 13, 14, 15, 16, 17, 18, 19, 20, 21, 22, 23, 24, 28, 33, 50, 58, 80, 85, 103, 110, 140, 151, 171, 185, 199, 213, 1000000, 1000001] hX ?_ | refine awp_drawnG [0, 1, 2, 3, 4, 10, 11, 12, 13, 14, 15, 16, 17, 18, 19, 20, 21, 22, 23, 24, 28, 33, 50, 58, 80, 85, 103, 110, 140, 151, 171, 185, 199, 213, 1000000, 1000001] hX mixed ?_ | refine awp_skip ?_ | refine awp_exit ?_); (simp [go_sem]; (try simp (disch := omega) only [w64, td, tm]); try (refine ⟨by kernel_rfl, ?_⟩)))))
          refine ⟨c + 1, r, ⟨by omega, by omega, g3, fun _ => ?_, g5⟩, by omega, ?_⟩
          · rw [show c + 1 - 1 = c by omega, show H - (c + 1) = f by omega, gA, gB]
            exact hbef2 fun q => hd (hbef.1 q)
          refine sub_of _ [.old 0 ⟨3, 1, D.map ii⟩, .old 1 ⟨22, 1, [bsl R]⟩] (by simp [go_sem]) ?_
          simp [go_sem]
          try omega
        · have hd : cmpC R y x < 0 := by simpa using hd
          (repeat (first | refine awp_seq ?_ | refine awp_block ?_ | ((first | refine awp_runG [0, 1, 2, 3, 4, 10, 11, 12, 13, 14, 15, 16, 17, 18, 19, 20, 21, 22, 23, 24, 28, 33, 50, 58, 80, 85, 103, 110, 140, 151, 171, 185, 199, 213, 1000000, 1000001] hX ?_ | refine awp_drawnG [0, 1, 2, 3, 4, 10, 11, 12, 13, 14, 15, 16, 17, 18, 19, 20, 21, 22, 23, 24, 28, 33, 50, 58, 80, 85, 103, 110, 140, 151, 171, 185, 199, 213, 1000000, 1000001] hX mixed ?_ | refine awp_skip ?_ | refine awp_exit ?_); (simp [go_sem]; (try simp (disch := omega) only [w64, td, tm]); try (refine ⟨by kernel_rfl, ?_⟩)))))
          refine ⟨s, c, ⟨g1, by omega, by omega, g4, fun _ => ?_⟩, by omega, ?_⟩
          · rw [hf, gA, gB]; exact hbef.2 hd
          refine sub_of _ [.old 0 ⟨3, 1, D.map ii⟩, .old 1 ⟨22, 1, [bsl R]⟩] (by simp [go_sem]) ?_
          simp [go_sem]
          try omega
      · have hsr : s = r := by simp at hc; omega
        subst hsr
        obtain ⟨e, he⟩ : ∃ e, H - s = e := ⟨_, rfl⟩
        obtain ⟨E2, hE2⟩ : ∃ E2, m + e = E2 := ⟨_, rfl⟩
        have hwE2 : IntKind.i64.wrap ((n : Int) - (a + s)) = (E2 : Int) := by rw [w64 (by omega) (by omega)]; omega
        have k1 : ∀ x ∈ A.take s, ∀ y ∈ B.drop e, bef (kf R) x y := pw_take hA hB (by
          rcases Nat.lt_or_ge lo s with hl | hl
          · rcases Nat.lt_or_ge e B.length with h2 | h2
            · have h1 : s - 1 < A.length := by omega
              have := g4 hl
              rw [he, getD_lt h1, getD_lt h2] at this
              exact .inr (.inr ⟨h1, h2, this⟩)
            · exact .inr (.inl h2)
          · omega)
        have k2 : ∀ x ∈ B.take e, ∀ y ∈ A.drop s, bef (kf R) x y := pw_take hB hA (by
          rcases Nat.lt_or_ge s hi with hl | hl
          · have h1 : e - 1 < B.length := by omega
            have h2 : s < A.length := by omega
            have := g5 hl
            rw [show H - 1 - s = e - 1 by omega, getD_lt h1, getD_lt h2] at this
            exact .inr (.inr ⟨h1, h2, this⟩)
          · omega)
        have l1 : (A.take s).length = s := by rw [List.length_take]; omega
        have l2 : (A.drop s).length = p - s := by rw [List.length_drop]; omega
        have l3 : (B.take e).length = e := by rw [List.length_take]; omega
        have l4 : (B.drop e).length = q - e := by rw [List.length_drop]; omega
        have hAa := List.take_append_drop s A
        have hBb := List.take_append_drop e B
        have mA1 : ∀ x ∈ A.take s, x ∈ A := fun x hx => List.mem_of_mem_take hx
        have mA2 : ∀ x ∈ A.drop s, x ∈ A := fun x hx => List.mem_of_mem_drop hx
        have mB1 : ∀ x ∈ B.take e, x ∈ B := fun x hx => List.mem_of_mem_take hx
        have mB2 : ∀ x ∈ B.drop e, x ∈ B := fun x hx => List.mem_of_mem_drop hx
        have hnd : (A ++ B).Nodup := by
          rw [List.nodup_append]
          exact ⟨hA.imp fun h e => by subst e; exact bef_irr h, hB.imp fun h e => by subst e; exact bef_irr h, fun x hx y hy e => by have := hlt x hx y hy; omega⟩
        generalize A.take s = A1 at *
        generalize A.drop s = A2 at *
        generalize B.take e = B1 at *
        generalize B.drop e = B2 at *
        subst hAa
        subst hBb
        have hfin := srt_parts (.refl _) hA hB hnd k1 k2
        rw [List.pairwise_append] at hA hB
        obtain ⟨S1, hS1⟩ : ∃ S1, srt (kf R) (A1 ++ B1) = S1 := ⟨_, rfl⟩
        have hS1l : S1.length = H := by rw [← hS1, srt_len, List.length_append]; omega
        obtain ⟨W, hW⟩ : ∃ W, A2 ++ B2 ++ T = W := ⟨_, rfl⟩
        have hWl : W.length = A2.length + B2.length + T.length := by rw [← hW]; simp; omega
        have q0 : r4 (Q, A1 ++ A2, B1 ++ B2, T) = r4 (Q ++ A1, A2, B1, B2 ++ T) := by simp [r4]
        have q1 : r4 (Q ++ A1, B1, A2, B2 ++ T) = r4 (Q, A1, B1, W) := by rw [← hW]; simp [r4]
        have q2 : r3 Q S1 W = r4 (Q ++ S1, A2, B2, T) := by rw [← hW]; simp [r3, r4]
        have q3 : r3 (Q ++ S1) (srt (kf R) (A2 ++ B2)) T = r3 Q Z T := by rw [← hZ, ← hfin, ← hS1]; simp [r3]
        (repeat (first | refine awp_seq ?_ | refine awp_block ?_ | ((first | refine awp_runG [0, 1, 2, 3, 4, 10, 11, 12, 13, 14, 15, 16, 17, 18, 19, 20, 21, 22, 23, 24, 28, 33, 50, 58, 80, 85, 103, 110, 140, 151, 171, 185, 199, 213, 1000000, 1000001] hX ?_ | refine awp_drawnG [0, 1, 2, 3, 4, 10, 11, 12, 13, 14, 15, 16, 17, 18, 19, 20, 21, 22, 23, 24, 28, 33, 50, 58, 80, 85, 103, 110, 140, 151, 171, 185, 199, 213, 1000000, 1000001] hX mixed ?_ | refine awp_skip ?_ | refine awp_exit ?_); (simp [go_sem, hwE2]; (try simp (disch := omega) only [w64, td, tm]); try (refine ⟨by kernel_rfl, ?_⟩)))))
        try (simp [go_sem, hwE2]; try (refine ⟨by kernel_rfl, ?_⟩))
        refine awp_cut ⟨mkE [(0, .ow 0), (1, ii a), (3, ii b), (4, clo), (18, ii mid), (20, ii (a + s : Nat)), (24, ii E2), (1000000, .ow 0), (1000001, .ow 1)], sH (r4 (Q, A1, B1, W)) R⟩ ?_ ?_
        · (repeat (first | refine awp_seq ?_ | refine awp_block ?_ | ((first | refine awp_runG [0, 1, 2, 3, 4, 10, 11, 12, 13, 14, 15, 16, 17, 18, 19, 20, 21, 22, 23, 24, 28, 33, 50, 58, 80, 85, 103, 110, 140, 151, 171, 185, 199, 213, 1000000, 1000001] hX ?_ | refine awp_drawnG [0, 1, 2, 3, 4, 10, 11, 12, 13, 14, 15, 16, 17, 18, 19, 20, 21, 22, 23, 24, 28, 33, 50, 58, 80, 85, 103, 110, 140, 151, 171, 185, 199, 213, 1000000, 1000001] hX mixed ?_ | refine awp_skip ?_ | refine awp_exit ?_); (simp [go_sem]; try (refine ⟨by kernel_rfl, ?_⟩)))))
          refine awp_cond (b := decide (s < p) && decide (0 < e)) (by simp [go_sem]; first | done | (rw [Bool.eq_iff_iff]; simp; omega)) (fun hd => ?_) (fun hd => ?_)
          · simp at hd
            have hrot := rot_m (Q ++ A1) A2 B1 (B2 ++ T) R (by omega) (by omega) (by simp; omega) hR
            rw [← q0, q1, show (Q ++ A1).length = a + s by simp; omega, show a + s + A2.length = m by omega, show m + B1.length = E2 by omega] at hrot
            (repeat (first | refine awp_seq ?_ | refine awp_block ?_ | ((first | refine awp_runG [0, 1, 2, 3, 4, 10, 11, 12, 13, 14, 15, 16, 17, 18, 19, 20, 21, 22, 23, 24, 28, 33, 50, 58, 80, 85, 103, 110, 140, 151, 171, 185, 199, 213, 1000000, 1000001] hX ?_ | refine awp_drawnG [0, 1, 2, 3, 4, 10, 11, 12, 13, 14, 15, 16, 17, 18, 19, 20, 21, 22, 23, 24, 28, 33, 50, 58, 80, 85, 103, 110, 140, 151, 171, 185, 199, 213, 1000000, 1000001] hX mixed ?_ | refine awp_skip ?_ | refine awp_exit ?_); (simp [go_sem]; try (refine ⟨by kernel_rfl, ?_⟩)))))
            first | refine callH_intro [0, 1] (hrot) (by simp [go_sem]) ?_ | refine callTQ_intro [0, 1] (hrot) (by simp [go_sem]) ?_ | refine callTE_intro [0, 1] (hrot) (by simp [go_sem]) ?_
            try (simp [go_sem]; try (refine ⟨by kernel_rfl, ?_⟩))
            (repeat (first | refine awp_seq ?_ | refine awp_block ?_ | ((first | refine awp_runG [0, 1, 2, 3, 4, 10, 11, 12, 13, 14, 15, 16, 17, 18, 19, 20, 21, 22, 23, 24, 28, 33, 50, 58, 80, 85, 103, 110, 140, 151, 171, 185, 199, 213, 1000000, 1000001] hX ?_ | refine awp_drawnG [0, 1, 2, 3, 4, 10, 11, 12, 13, 14, 15, 16, 17, 18, 19, 20, 21, 22, 23, 24, 28, 33, 50, 58, 80, 85, 103, 110, 140, 151, 171, 185, 199, 213, 1000000, 1000001] hX mixed ?_ | refine awp_skip ?_ | refine awp_exit ?_); (simp [go_sem]; try (refine ⟨by kernel_rfl, ?_⟩)))))
            refine sub_of _ [.old 0 ⟨3, 1, (r4 (Q, A1, B1, W)).map ii⟩, .old 1 ⟨22, 1, [bsl R]⟩] (by simp [go_sem]) ?_
            simp [go_sem]
          · have hne : r4 (Q, A1 ++ A2, B1 ++ B2, T) = r4 (Q, A1, B1, W) := by
              rw [q0, ← q1]
              have : A2 = [] ∨ B1 = [] := by
                simp at hd
                rcases Nat.lt_or_ge s p with h | h
                · exact .inr (List.length_eq_zero_iff.1 (by omega))
                · exact .inl (List.length_eq_zero_iff.1 (by omega))
              rcases this with e0 | e0 <;> rw [e0] <;> simp [r4]
            rw [hne]
            (repeat (first | refine awp_seq ?_ | refine awp_block ?_ | ((first | refine awp_runG [0, 1, 2, 3, 4, 10, 11, 12, 13, 14, 15, 16, 17, 18, 19, 20, 21, 22, 23, 24, 28, 33, 50, 58, 80, 85, 103, 110, 140, 151, 171, 185, 199, 213, 1000000, 1000001] hX ?_ | refine awp_drawnG [0, 1, 2, 3, 4, 10, 11, 12, 13, 14, 15, 16, 17, 18, 19, 20, 21, 22, 23, 24, 28, 33, 50, 58, 80, 85, 103, 110, 140, 151, 171, 185, 199, 213, 1000000, 1000001] hX mixed ?_ | refine awp_skip ?_ | refine awp_exit ?_); (simp [go_sem]; try (refine ⟨by kernel_rfl, ?_⟩)))))
            refine sub_of _ [.old 0 ⟨3, 1, (r4 (Q, A1, B1, W)).map ii⟩, .old 1 ⟨22, 1, [bsl R]⟩] (by simp [go_sem]) ?_
            simp [go_sem]
        (repeat (first | refine awp_seq ?_ | refine awp_block ?_ | ((first | refine awp_runG [0, 1, 2, 3, 4, 10, 11, 12, 13, 14, 15, 16, 17, 18, 19, 20, 21, 22, 23, 24, 28, 33, 50, 58, 80, 85, 103, 110, 140, 151, 171, 185, 199, 213, 1000000, 1000001] hX ?_ | refine awp_drawnG [0, 1, 2, 3, 4, 10, 11, 12, 13, 14, 15, 16, 17, 18, 19, 20, 21, 22, 23, 24, 28, 33, 50, 58, 80, 85, 103, 110, 140, 151, 171, 185, 199, 213, 1000000, 1000001] hX mixed ?_ | refine awp_skip ?_ | refine awp_exit ?_); (simp [go_sem]; try (refine ⟨by kernel_rfl, ?_⟩)))))
        refine awp_cut ⟨mkE [(0, .ow 0), (3, ii b), (4, clo), (18, ii mid), (24, ii E2), (1000000, .ow 0), (1000001, .ow 1)], sH (r3 Q S1 W) R⟩ ?_ ?_
        · (repeat (first | refine awp_seq ?_ | refine awp_block ?_ | ((first | refine awp_runG [0, 1, 2, 3, 4, 10, 11, 12, 13, 14, 15, 16, 17, 18, 19, 20, 21, 22, 23, 24, 28, 33, 50, 58, 80, 85, 103, 110, 140, 151, 171, 185, 199, 213, 1000000, 1000001] hX ?_ | refine awp_drawnG [0, 1, 2, 3, 4, 10, 11, 12, 13, 14, 15, 16, 17, 18, 19, 20, 21, 22, 23, 24, 28, 33, 50, 58, 80, 85, 103, 110, 140, 151, 171, 185, 199, 213, 1000000, 1000001] hX mixed ?_ | refine awp_skip ?_ | refine awp_exit ?_); (simp [go_sem]; try (refine ⟨by kernel_rfl, ?_⟩)))))
          refine awp_cond (b := decide (0 < s) && decide (s < H)) (by simp [go_sem]; first | done | (rw [Bool.eq_iff_iff]; simp; omega)) (fun hd => ?_) (fun hd => ?_)
          · simp at hd
            have hrec := IH Q A1 B1 W (by omega) (by omega) (by omega) hA.1 hB.1 (fun x hx y hy => hlt x (mA1 x hx) y (mB1 y hy)) (fun x hx => hra x (mA1 x hx)) (fun x hx => hrb x (mB1 x hx)) (by omega)
            rw [hS1, ha, show a + A1.length = a + s by omega, show a + s + B1.length = mid by omega] at hrec
            (repeat (first | refine awp_seq ?_ | refine awp_block ?_ | ((first | refine awp_runG [0, 1, 2, 3, 4, 10, 11, 12, 13, 14, 15, 16, 17, 18, 19, 20, 21, 22, 23, 24, 28, 33, 50, 58, 80, 85, 103, 110, 140, 151, 171, 185, 199, 213, 1000000, 1000001] hX ?_ | refine awp_drawnG [0, 1, 2, 3, 4, 10, 11, 12, 13, 14, 15, 16, 17, 18, 19, 20, 21, 22, 23, 24, 28, 33, 50, 58, 80, 85, 103, 110, 140, 151, 171, 185, 199, 213, 1000000, 1000001] hX mixed ?_ | refine awp_skip ?_ | refine awp_exit ?_); (simp [go_sem]; try (refine ⟨by kernel_rfl, ?_⟩)))))
            first | refine callH_intro [0, 1] (hrec) (by simp [go_sem]) ?_ | refine callTQ_intro [0, 1] (hrec) (by simp [go_sem]) ?_ | refine callTE_intro [0, 1] (hrec) (by simp [go_sem]) ?_
            try (simp [go_sem]; try (refine ⟨by kernel_rfl, ?_⟩))
            (repeat (first | refine awp_seq ?_ | refine awp_block ?_ | ((first | refine awp_runG [0, 1, 2, 3, 4, 10, 11, 12, 13, 14, 15, 16, 17, 18, 19, 20, 21, 22, 23, 24, 28, 33, 50, 58, 80, 85, 103, 110, 140, 151, 171, 185, 199, 213, 1000000, 1000001] hX ?_ | refine awp_drawnG [0, 1, 2, 3, 4, 10, 11, 12, 13, 14, 15, 16, 17, 18, 19, 20, 21, 22, 23, 24, 28, 33, 50, 58, 80, 85, 103, 110, 140, 151, 171, 185, 199, 213, 1000000, 1000001] hX mixed ?_ | refine awp_skip ?_ | refine awp_exit ?_); (simp [go_sem]; try (refine ⟨by kernel_rfl, ?_⟩)))))
            refine sub_of _ [.old 0 ⟨3, 1, (r3 Q S1 W).map ii⟩, .old 1 ⟨22, 1, [bsl R]⟩] (by simp [go_sem]) ?_
            simp [go_sem]
          · have hne : r4 (Q, A1, B1, W) = r3 Q S1 W := by
              have : A1 = [] ∨ B1 = [] := by
                simp at hd
                rcases Nat.eq_zero_or_pos s with h | h
                · exact .inl (List.length_eq_zero_iff.1 (by omega))
                · exact .inr (List.length_eq_zero_iff.1 (by omega))
              rw [← hS1]
              rcases this with e0 | e0
              · rw [e0, List.nil_append, srt_of hB.1]; simp [r3, r4]
              · rw [e0, List.append_nil, srt_of hA.1]; simp [r3, r4]
            rw [hne]
            (repeat (first | refine awp_seq ?_ | refine awp_block ?_ | ((first | refine awp_runG [0, 1, 2, 3, 4, 10, 11, 12, 13, 14, 15, 16, 17, 18, 19, 20, 21, 22, 23, 24, 28, 33, 50, 58, 80, 85, 103, 110, 140, 151, 171, 185, 199, 213, 1000000, 1000001] hX ?_ | refine awp_drawnG [0, 1, 2, 3, 4, 10, 11, 12, 13, 14, 15, 16, 17, 18, 19, 20, 21, 22, 23, 24, 28, 33, 50, 58, 80, 85, 103, 110, 140, 151, 171, 185, 199, 213, 1000000, 1000001] hX mixed ?_ | refine awp_skip ?_ | refine awp_exit ?_); (simp [go_sem]; try (refine ⟨by kernel_rfl, ?_⟩)))))
            refine sub_of _ [.old 0 ⟨3, 1, (r3 Q S1 W).map ii⟩, .old 1 ⟨22, 1, [bsl R]⟩] (by simp [go_sem]) ?_
            simp [go_sem]
        (repeat (first | refine awp_seq ?_ | refine awp_block ?_ | ((first | refine awp_runG [0, 1, 2, 3, 4, 10, 11, 12, 13, 14, 15, 16, 17, 18, 19, 20, 21, 22, 23, 24, 28, 33, 50, 58, 80, 85, 103, 110, 140, 151, 171, 185, 199, 213, 1000000, 1000001] hX ?_ | refine awp_drawnG [0, 1, 2, 3, 4, 10, 11, 12, 13, 14, 15, 16, 17, 18, 19, 20, 21, 22, 23, 24, 28, 33, 50, 58, 80, 85, 103, 110, 140, 151, 171, 185, 199, 213, 1000000, 1000001] hX mixed ?_ | refine awp_skip ?_ | refine awp_exit ?_); (simp [go_sem]; try (refine ⟨by kernel_rfl, ?_⟩)))))
        refine awp_cond (b := decide (s < p) && decide (e < q)) (by simp [go_sem]; first | done | (rw [Bool.eq_iff_iff]; simp; omega)) (fun hd => ?_) (fun hd => ?_)
        · simp at hd
          have hrec := IH (Q ++ S1) A2 B2 T (by omega) (by omega) (by omega) hA.2.1 hB.2.1 (fun x hx y hy => hlt x (mA2 x hx) y (mB2 y hy)) (fun x hx => hra x (mA2 x hx)) (fun x hx => hrb x (mB2 x hx)) (by simp; omega)
          rw [← q2, q3, show (Q ++ S1).length = mid by simp; omega, show mid + A2.length = E2 by omega, show E2 + B2.length = b by omega] at hrec
          (repeat (first | refine awp_seq ?_ | refine awp_block ?_ | ((first | refine awp_runG [0, 1, 2, 3, 4, 10, 11, 12, 13, 14, 15, 16, 17, 18, 19, 20, 21, 22, 23, 24, 28, 33, 50, 58, 80, 85, 103, 110, 140, 151, 171, 185, 199, 213, 1000000, 1000001] hX ?_ | refine awp_drawnG [0, 1, 2, 3, 4, 10, 11, 12, 13, 14, 15, 16, 17, 18, 19, 20, 21, 22, 23, 24, 28, 33, 50, 58, 80, 85, 103, 110, 140, 151, 171, 185, 199, 213, 1000000, 1000001] hX mixed ?_ | refine awp_skip ?_ | refine awp_exit ?_); (simp [go_sem]; try (refine ⟨by kernel_rfl, ?_⟩)))))
          first | refine callH_intro [0, 1] (hrec) (by simp [go_sem]) ?_ | refine callTQ_intro [0, 1] (hrec) (by simp [go_sem]) ?_ | refine callTE_intro [0, 1] (hrec) (by simp [go_sem]) ?_
          try (simp [go_sem]; try (refine ⟨by kernel_rfl, ?_⟩))
          (repeat (first | refine awp_seq ?_ | refine awp_block ?_ | ((first | refine awp_runG [0, 1, 2, 3, 4, 10, 11, 12, 13, 14, 15, 16, 17, 18, 19, 20, 21, 22, 23, 24, 28, 33, 50, 58, 80, 85, 103, 110, 140, 151, 171, 185, 199, 213, 1000000, 1000001] hX ?_ | refine awp_drawnG [0, 1, 2, 3, 4, 10, 11, 12, 13, 14, 15, 16, 17, 18, 19, 20, 21, 22, 23, 24, 28, 33, 50, 58, 80, 85, 103, 110, 140, 151, 171, 185, 199, 213, 1000000, 1000001] hX mixed ?_ | refine awp_skip ?_ | refine awp_exit ?_); (simp [go_sem]; try (refine ⟨by kernel_rfl, ?_⟩)))))
          (try refine awp_ret ?_); (try simp only [thenQ, blkQ, loopQ]); refine retH_normal [(1000000, .ow 0), (1000001, .ow 1)] [.old 0 ⟨3, 1, (r3 Q Z T).map ii⟩, .old 1 ⟨22, 1, [bsl R]⟩] ?_
          simp [go_sem]
        · have hne : r3 Q S1 W = r3 Q Z T := by
            rw [← q3]
            have : A2 = [] ∨ B2 = [] := by
              simp at hd
              rcases Nat.lt_or_ge s p with h | h
              · exact .inr (List.length_eq_zero_iff.1 (by omega))
              · exact .inl (List.length_eq_zero_iff.1 (by omega))
            rw [← hW]
            rcases this with e0 | e0
            · rw [e0, List.nil_append, srt_of hB.2.1]; simp [r3]
            · rw [e0, List.append_nil, srt_of hA.2.1]; simp [r3]
          rw [hne]
          first | refine awp_skip ?_ | skip
          (try refine awp_ret ?_); (try simp only [thenQ, blkQ, loopQ]); refine retH_normal [(1000000, .ow 0), (1000001, .ow 1)] [.old 0 ⟨3, 1, (r3 Q Z T).map ii⟩, .old 1 ⟨22, 1, [bsl R]⟩] ?_
          simp [go_sem]

end Go.Proofs.YtjgkjenbgadacaaDoor.B
