/-
  Layer 35: the numbers of a seed, the draw of places.
-/
import Derived.Test.YtflcmfeafiippaaJuryB
set_option linter.all false
namespace Go.Proofs.Ytflcmfeafiippaa
open Go.RowKit Go.Ab
attribute [local irreducible] AWP Go.Ab.Sub Means MeansH CallK CallG CallT CallGT

@[go_sem] theorem nth_set_ii {L : List Int} {j q : Nat} {x : Int} (h : q < L.length) : nth ((L.map ii).set j (ii x)) q = ii ((L.set j x)[q]'(by simpa using h)) := by
  rw [← List.map_set, nth_ii (by simpa using h)]
theorem next_m (x : Int) (hx : 0 ≤ x ∧ x < 2147483648) : MeansH Try.prog 30 [.row ⟨51, 1, [ii x]⟩] [.el 0 1 0 0] (ii (gx x)) [.row ⟨51, 1, [ii (gx x)]⟩] := by
  refine meansH_fn 1 14 [.tmp 2] Try.func30 rfl rfl rfl (by simp) (by decide) rfl fun X hX => ?_
  (repeat (first | refine awp_seq ?_ | refine awp_block ?_ | (refine awp_runG [0, 2, 1000000] hX ?_; (simp [go_sem]; (try simp (disch := omega) only [w64, td, tm]); try (refine ⟨by kernel_rfl, ?_⟩))) | (refine awp_drawnG [0, 2, 1000000] hX mixed ?_; (simp [go_sem]; (try simp (disch := omega) only [w64, td, tm]); try (refine ⟨by kernel_rfl, ?_⟩))) | (refine awp_skip ?_; (simp [go_sem]; (try simp (disch := omega) only [w64, td, tm]); try (refine ⟨by kernel_rfl, ?_⟩))) | (refine awp_exit ?_; (simp [go_sem]; (try simp (disch := omega) only [w64, td, tm]); try (refine ⟨by kernel_rfl, ?_⟩)))))
  refine awp_ret ?_; (try simp only [thenQ, blkQ, loopQ]); refine retH_ret [(2, ii (gx x)), (1000000, .ow 0)] [.old 0 ⟨51, 1, [ii (gx x)]⟩] ?_
  simp [go_sem, gx]

/-- Whether a draw is refused. -/
def dbad (n k : Int) : Bool := decide (n < 0) || decide (4000 < n) || decide (k < 0) || decide (n < k)
/-- The first i places are filled. -/
def izl (n i : Nat) : List Int := iota i ++ List.replicate (n - i) 0
@[simp] theorem izl_len (n i : Nat) : (izl n i).length = i + (n - i) := by simp [izl]
theorem izl_0 (n : Nat) : izl n 0 = List.replicate n 0 := by simp [izl, iota]
theorem izl_n (n : Nat) : izl n n = iota n := by simp [izl]
theorem iota_step {n i : Nat} (h : i < n) : (izl n i).set i (i : Int) = izl n (i + 1) := by
  unfold izl
  rw [List.set_append_right _ _ (by simp), iota_len, Nat.sub_self, iota_succ]
  obtain ⟨m, hm⟩ : ∃ m, n - i = m + 1 := ⟨n - i - 1, by omega⟩
  rw [hm, show n - (i + 1) = m by omega, List.replicate_succ, List.set_cons_zero]
  simp
theorem jat_z {n i : Nat} (h : i < n) {x : Int} (hx : 0 ≤ x) : (i : Int) + (x / 65536).tmod ((n : Int) - i) = (jat n i x : Nat) := by
  have h1 := Int.emod_nonneg (x / 65536) (b := (n : Int) - i) (by omega)
  rw [Int.tmod_eq_emod_of_nonneg (by omega)]
  unfold jat
  omega
theorem swp_at {l : List Int} {i j : Nat} (hi : i < l.length) (hj : j < l.length) : swp l i j = (l.set i l[j]).set j l[i] := by
  unfold swp
  rw [getD_lt hi, getD_lt hj]

set_option maxHeartbeats 4000000 in
set_option maxRecDepth 20000 in
theorem tdraw_m (seed : Int) (n k : Nat) (hn : n ≤ 4000) (hk : k ≤ n) : Means false Try.prog 24 [ii seed, ii n, ii k] (il (drw seed n k)) := by
  refine means_fn false 72 [.tmp 6] Try.func24 rfl rfl rfl (by simp) (by decide) rfl fun X hX => ?_
  (repeat (first | refine awp_seq ?_ | refine awp_block ?_ | (refine awp_runG [0, 1, 2, 6, 7, 8, 9, 10, 11, 26, 30, 31, 32, 41, 42, 43] hX ?_; (simp [go_sem]; try (refine ⟨by kernel_rfl, ?_⟩))) | (refine awp_drawnG [0, 1, 2, 6, 7, 8, 9, 10, 11, 26, 30, 31, 32, 41, 42, 43] hX mixed ?_; (simp [go_sem]; try (refine ⟨by kernel_rfl, ?_⟩))) | (refine awp_ret ?_; (simp [go_sem]; try (refine ⟨by kernel_rfl, ?_⟩))) | (refine awp_skip ?_; (simp [go_sem]; try (refine ⟨by kernel_rfl, ?_⟩))) | (refine awp_exit ?_; (simp [go_sem]; try (refine ⟨by kernel_rfl, ?_⟩)))))
  refine awp_cond (b := false) (by simp [go_sem]; omega) (fun hb => by cases hb) (fun _ => ?_)
  (repeat (first | refine awp_seq ?_ | refine awp_block ?_ | (refine awp_runG [0, 1, 2, 6, 7, 8, 9, 10, 11, 26, 30, 31, 32, 41, 42, 43] hX ?_; (simp [go_sem]; try (refine ⟨by kernel_rfl, ?_⟩))) | (refine awp_drawnG [0, 1, 2, 6, 7, 8, 9, 10, 11, 26, 30, 31, 32, 41, 42, 43] hX mixed ?_; (simp [go_sem]; try (refine ⟨by kernel_rfl, ?_⟩))) | (refine awp_ret ?_; (simp [go_sem]; try (refine ⟨by kernel_rfl, ?_⟩))) | (refine awp_skip ?_; (simp [go_sem]; try (refine ⟨by kernel_rfl, ?_⟩))) | (refine awp_exit ?_; (simp [go_sem]; try (refine ⟨by kernel_rfl, ?_⟩)))))
  (repeat refine And.intro (by first | omega | (unfold maxLen; omega) | kernel_rfl | (refine ⟨by first | omega | (unfold maxLen; omega), by first | omega | (unfold maxLen; omega)⟩) | grind) ?_)
  (repeat (first | refine awp_seq ?_ | refine awp_block ?_ | (refine awp_runG [0, 1, 2, 6, 7, 8, 9, 10, 11, 26, 30, 31, 32, 41, 42, 43] hX ?_; (simp [go_sem]; try (refine ⟨by kernel_rfl, ?_⟩))) | (refine awp_drawnG [0, 1, 2, 6, 7, 8, 9, 10, 11, 26, 30, 31, 32, 41, 42, 43] hX mixed ?_; (simp [go_sem]; try (refine ⟨by kernel_rfl, ?_⟩))) | (refine awp_ret ?_; (simp [go_sem]; try (refine ⟨by kernel_rfl, ?_⟩))) | (refine awp_skip ?_; (simp [go_sem]; try (refine ⟨by kernel_rfl, ?_⟩))) | (refine awp_exit ?_; (simp [go_sem]; try (refine ⟨by kernel_rfl, ?_⟩)))))
  refine awp_loop (fun i : Nat => ⟨mkE [(0, ii seed), (1, ii n), (2, ii k), (7, .ow 0), (30, ii n), (31, ii i)], [rowI (izl n i)]⟩) (fun i => i ≤ n) (fun i => n - i) 0 ?_ ?_ ?_
  · rw [izl_0]
    refine sub_of _ [.old 0 ⟨3, 1, (List.replicate n (0 : Int)).map ii⟩] (by simp [go_sem]) ?_
    simp [go_sem]
  · omega
  · intro i hi
    (repeat (first | refine awp_seq ?_ | refine awp_block ?_ | (refine awp_runG [0, 1, 2, 6, 7, 8, 9, 10, 11, 26, 30, 31, 32, 41, 42, 43] hX ?_; (simp [go_sem]; try (refine ⟨by kernel_rfl, ?_⟩))) | (refine awp_drawnG [0, 1, 2, 6, 7, 8, 9, 10, 11, 26, 30, 31, 32, 41, 42, 43] hX mixed ?_; (simp [go_sem]; try (refine ⟨by kernel_rfl, ?_⟩))) | (refine awp_ret ?_; (simp [go_sem]; try (refine ⟨by kernel_rfl, ?_⟩))) | (refine awp_skip ?_; (simp [go_sem]; try (refine ⟨by kernel_rfl, ?_⟩))) | (refine awp_exit ?_; (simp [go_sem]; try (refine ⟨by kernel_rfl, ?_⟩)))))
    refine awp_cond (b := decide (i < n)) (by simp [go_sem]) (fun hb => ?_) (fun hb => ?_)
    · simp at hb
      have hl : i < i + (n - i) := by omega
      (repeat (first | refine awp_seq ?_ | refine awp_block ?_ | (refine awp_runG [0, 1, 2, 6, 7, 8, 9, 10, 11, 26, 30, 31, 32, 41, 42, 43] hX ?_; (simp [go_sem, hl]; (try simp (disch := omega) only [w64, td, tm]); try (refine ⟨by kernel_rfl, ?_⟩))) | (refine awp_drawnG [0, 1, 2, 6, 7, 8, 9, 10, 11, 26, 30, 31, 32, 41, 42, 43] hX mixed ?_; (simp [go_sem, hl]; (try simp (disch := omega) only [w64, td, tm]); try (refine ⟨by kernel_rfl, ?_⟩))) | (refine awp_ret ?_; (simp [go_sem, hl]; (try simp (disch := omega) only [w64, td, tm]); try (refine ⟨by kernel_rfl, ?_⟩))) | (refine awp_skip ?_; (simp [go_sem, hl]; (try simp (disch := omega) only [w64, td, tm]); try (refine ⟨by kernel_rfl, ?_⟩))) | (refine awp_exit ?_; (simp [go_sem, hl]; (try simp (disch := omega) only [w64, td, tm]); try (refine ⟨by kernel_rfl, ?_⟩)))))
      try (simp [go_sem, hl]; try (refine ⟨by kernel_rfl, ?_⟩))
      (repeat refine And.intro (by first | omega | (unfold maxLen; omega) | kernel_rfl | (refine ⟨by first | omega | (unfold maxLen; omega), by first | omega | (unfold maxLen; omega)⟩) | grind) ?_)
      (repeat (first | refine awp_seq ?_ | refine awp_block ?_ | (refine awp_runG [0, 1, 2, 6, 7, 8, 9, 10, 11, 26, 30, 31, 32, 41, 42, 43] hX ?_; (simp [go_sem, hl]; (try simp (disch := omega) only [w64, td, tm]); try (refine ⟨by kernel_rfl, ?_⟩))) | (refine awp_drawnG [0, 1, 2, 6, 7, 8, 9, 10, 11, 26, 30, 31, 32, 41, 42, 43] hX mixed ?_; (simp [go_sem, hl]; (try simp (disch := omega) only [w64, td, tm]); try (refine ⟨by kernel_rfl, ?_⟩))) | (refine awp_ret ?_; (simp [go_sem, hl]; (try simp (disch := omega) only [w64, td, tm]); try (refine ⟨by kernel_rfl, ?_⟩))) | (refine awp_skip ?_; (simp [go_sem, hl]; (try simp (disch := omega) only [w64, td, tm]); try (refine ⟨by kernel_rfl, ?_⟩))) | (refine awp_exit ?_; (simp [go_sem, hl]; (try simp (disch := omega) only [w64, td, tm]); try (refine ⟨by kernel_rfl, ?_⟩)))))
      refine ⟨i + 1, by omega, by omega, ?_⟩
      rw [← iota_step hb]
      refine sub_of _ [.old 0 ⟨3, 1, ((izl n i).set i (i : Int)).map ii⟩] (by simp [go_sem]) ?_
      simp [go_sem]
    · have hin : i = n := by simp at hb; omega
      subst hin
      rw [izl_n]
      have hg := g0_bd seed
      (repeat (first | refine awp_seq ?_ | refine awp_block ?_ | (refine awp_runG [0, 1, 2, 6, 7, 8, 9, 10, 11, 26, 30, 31, 32, 41, 42, 43] hX ?_; (simp [go_sem]; try (refine ⟨by kernel_rfl, ?_⟩))) | (refine awp_drawnG [0, 1, 2, 6, 7, 8, 9, 10, 11, 26, 30, 31, 32, 41, 42, 43] hX mixed ?_; (simp [go_sem]; try (refine ⟨by kernel_rfl, ?_⟩))) | (refine awp_ret ?_; (simp [go_sem]; try (refine ⟨by kernel_rfl, ?_⟩))) | (refine awp_skip ?_; (simp [go_sem]; try (refine ⟨by kernel_rfl, ?_⟩))) | (refine awp_exit ?_; (simp [go_sem]; try (refine ⟨by kernel_rfl, ?_⟩)))))
      refine awp_loop (fun j : Nat => ⟨mkE [(0, ii seed), (1, ii i), (2, ii k), (7, .ow 0), (9, .el 1 1 0 0), (41, ii k), (42, ii j)], [rowI (drawSt seed i j).2, .row ⟨51, 1, [ii (drawSt seed i j).1]⟩]⟩) (fun j => j ≤ k) (fun j => k - j) 0 ?_ ?_ ?_
      · refine sub_of _ [.old 0 ⟨3, 1, (iota i).map ii⟩, .old 1 ⟨51, 1, [ii (g0 seed)]⟩] (by simp [go_sem, drawSt, g0]) ?_
        simp [go_sem, drawSt, g0]
      · omega
      · intro j hj
        have hx := dx_bd seed i j
        (repeat (first | refine awp_seq ?_ | refine awp_block ?_ | (refine awp_runG [0, 1, 2, 6, 7, 8, 9, 10, 11, 26, 30, 31, 32, 41, 42, 43] hX ?_; (simp [go_sem]; try (refine ⟨by kernel_rfl, ?_⟩))) | (refine awp_drawnG [0, 1, 2, 6, 7, 8, 9, 10, 11, 26, 30, 31, 32, 41, 42, 43] hX mixed ?_; (simp [go_sem]; try (refine ⟨by kernel_rfl, ?_⟩))) | (refine awp_ret ?_; (simp [go_sem]; try (refine ⟨by kernel_rfl, ?_⟩))) | (refine awp_skip ?_; (simp [go_sem]; try (refine ⟨by kernel_rfl, ?_⟩))) | (refine awp_exit ?_; (simp [go_sem]; try (refine ⟨by kernel_rfl, ?_⟩)))))
        refine awp_cond (b := decide (j < k)) (by simp [go_sem]) (fun hc => ?_) (fun hc => ?_)
        · simp at hc
          have hji : j < i := by omega
          have hgx := gx_bd (drawSt seed i j).1
          have hz := jat_z hji hgx.1
          have hjb := jat_bd hji (gx (drawSt seed i j).1)
          have hlen := dl_len seed i j
          have hjn : ((i : Int) - j) ≠ 0 := by omega
          have hww := w64 (x := (i : Int) - j) (by omega) (by omega)
          have e1 : (drawSt seed i (j + 1)).1 = gx (drawSt seed i j).1 := rfl
          have e2 : (drawSt seed i (j + 1)).2 = swp (drawSt seed i j).2 j (jat i j (gx (drawSt seed i j).1)) := rfl
          (repeat (first | refine awp_seq ?_ | refine awp_block ?_ | (refine awp_runG [0, 1, 2, 6, 7, 8, 9, 10, 11, 26, 30, 31, 32, 41, 42, 43] hX ?_; (simp [go_sem, hji]; try (refine ⟨by kernel_rfl, ?_⟩))) | (refine awp_drawnG [0, 1, 2, 6, 7, 8, 9, 10, 11, 26, 30, 31, 32, 41, 42, 43] hX mixed ?_; (simp [go_sem, hji]; try (refine ⟨by kernel_rfl, ?_⟩))) | (refine awp_ret ?_; (simp [go_sem, hji]; try (refine ⟨by kernel_rfl, ?_⟩))) | (refine awp_skip ?_; (simp [go_sem, hji]; try (refine ⟨by kernel_rfl, ?_⟩))) | (refine awp_exit ?_; (simp [go_sem, hji]; try (refine ⟨by kernel_rfl, ?_⟩)))))
          first | refine callH_intro [1] (next_m _ hx) (by simp [go_sem]) ?_ | refine callTQ_intro [1] (next_m _ hx) (by simp [go_sem]) ?_ | refine callTE_intro [1] (next_m _ hx) (by simp [go_sem]) ?_
          try (simp [go_sem]; try (refine ⟨by kernel_rfl, ?_⟩))
          generalize gx (drawSt seed i j).1 = x at hz hjb hgx e1 e2 ⊢
          generalize jat i j x = q at hz hjb e2 ⊢
          have hw2 := w64 (x := (q : Int)) (by omega) (by omega)
          have h1 : j < (drawSt seed i j).2.length := by omega
          have h2 : q < (drawSt seed i j).2.length := by omega
          rw [swp_at h1 h2] at e2
          have hqi : q < i := hjb.2
          have hzs : zoneEs ((((drawSt seed i j).2.map ii).set j (ii (drawSt seed i j).2[q])).set q (ii (drawSt seed i j).2[j])) = true := by
            rw [← List.map_set, ← List.map_set]; exact zoneEs_map _ _ (fun _ => rfl)
          have hwd := w64 (x := x / 65536) (by omega) (by omega)
          have hwj := w64 (x := (j : Int) + 1) (by omega) (by omega)
          (repeat (first | refine awp_seq ?_ | refine awp_block ?_ | (refine awp_runG [0, 1, 2, 6, 7, 8, 9, 10, 11, 26, 30, 31, 32, 41, 42, 43] hX ?_; (simp [go_sem, hww, hz, hw2, hjn, h1, h2, hqi, hji, hwj, hwd]; try (refine ⟨by kernel_rfl, ?_⟩))) | (refine awp_drawnG [0, 1, 2, 6, 7, 8, 9, 10, 11, 26, 30, 31, 32, 41, 42, 43] hX mixed ?_; (simp [go_sem, hww, hz, hw2, hjn, h1, h2, hqi, hji, hwj, hwd]; try (refine ⟨by kernel_rfl, ?_⟩))) | (refine awp_ret ?_; (simp [go_sem, hww, hz, hw2, hjn, h1, h2, hqi, hji, hwj, hwd]; try (refine ⟨by kernel_rfl, ?_⟩))) | (refine awp_skip ?_; (simp [go_sem, hww, hz, hw2, hjn, h1, h2, hqi, hji, hwj, hwd]; try (refine ⟨by kernel_rfl, ?_⟩))) | (refine awp_exit ?_; (simp [go_sem, hww, hz, hw2, hjn, h1, h2, hqi, hji, hwj, hwd]; try (refine ⟨by kernel_rfl, ?_⟩)))))
          try (simp [go_sem, hww, hz, hw2, hjn, h1, h2, hqi, hji, hwj, hwd]; try (refine ⟨by kernel_rfl, ?_⟩))
          (repeat (first | refine awp_seq ?_ | refine awp_block ?_ | (refine awp_runG [0, 1, 2, 6, 7, 8, 9, 10, 11, 26, 30, 31, 32, 41, 42, 43] hX ?_; (simp [go_sem, hww, hz, hw2, hjn, h1, h2, hqi, hji, hwj, hwd]; try (refine ⟨by kernel_rfl, ?_⟩))) | (refine awp_drawnG [0, 1, 2, 6, 7, 8, 9, 10, 11, 26, 30, 31, 32, 41, 42, 43] hX mixed ?_; (simp [go_sem, hww, hz, hw2, hjn, h1, h2, hqi, hji, hwj, hwd]; try (refine ⟨by kernel_rfl, ?_⟩))) | (refine awp_ret ?_; (simp [go_sem, hww, hz, hw2, hjn, h1, h2, hqi, hji, hwj, hwd]; try (refine ⟨by kernel_rfl, ?_⟩))) | (refine awp_skip ?_; (simp [go_sem, hww, hz, hw2, hjn, h1, h2, hqi, hji, hwj, hwd]; try (refine ⟨by kernel_rfl, ?_⟩))) | (refine awp_exit ?_; (simp [go_sem, hww, hz, hw2, hjn, h1, h2, hqi, hji, hwj, hwd]; try (refine ⟨by kernel_rfl, ?_⟩)))))
          (repeat refine And.intro (by first | omega | (unfold maxLen; omega) | kernel_rfl | (refine ⟨by first | omega | (unfold maxLen; omega), by first | omega | (unfold maxLen; omega)⟩) | grind) ?_)
          (repeat (first | refine awp_seq ?_ | refine awp_block ?_ | (refine awp_runG [0, 1, 2, 6, 7, 8, 9, 10, 11, 26, 30, 31, 32, 41, 42, 43] hX ?_; (simp [go_sem, hww, hz, hw2, hjn, h1, h2, hqi, hji, hwj, hwd]; try (refine ⟨by kernel_rfl, ?_⟩))) | (refine awp_drawnG [0, 1, 2, 6, 7, 8, 9, 10, 11, 26, 30, 31, 32, 41, 42, 43] hX mixed ?_; (simp [go_sem, hww, hz, hw2, hjn, h1, h2, hqi, hji, hwj, hwd]; try (refine ⟨by kernel_rfl, ?_⟩))) | (refine awp_ret ?_; (simp [go_sem, hww, hz, hw2, hjn, h1, h2, hqi, hji, hwj, hwd]; try (refine ⟨by kernel_rfl, ?_⟩))) | (refine awp_skip ?_; (simp [go_sem, hww, hz, hw2, hjn, h1, h2, hqi, hji, hwj, hwd]; try (refine ⟨by kernel_rfl, ?_⟩))) | (refine awp_exit ?_; (simp [go_sem, hww, hz, hw2, hjn, h1, h2, hqi, hji, hwj, hwd]; try (refine ⟨by kernel_rfl, ?_⟩)))))
          (repeat refine And.intro (by first | omega | (unfold maxLen; omega) | kernel_rfl | (refine ⟨by first | omega | (unfold maxLen; omega), by first | omega | (unfold maxLen; omega)⟩) | grind) ?_)
          (repeat (first | refine awp_seq ?_ | refine awp_block ?_ | (refine awp_runG [0, 1, 2, 6, 7, 8, 9, 10, 11, 26, 30, 31, 32, 41, 42, 43] hX ?_; (simp [go_sem, hww, hz, hw2, hjn, h1, h2, hqi, hji, hwj, hwd]; (try simp (disch := omega) only [w64, td, tm]); try (refine ⟨by kernel_rfl, ?_⟩))) | (refine awp_drawnG [0, 1, 2, 6, 7, 8, 9, 10, 11, 26, 30, 31, 32, 41, 42, 43] hX mixed ?_; (simp [go_sem, hww, hz, hw2, hjn, h1, h2, hqi, hji, hwj, hwd]; (try simp (disch := omega) only [w64, td, tm]); try (refine ⟨by kernel_rfl, ?_⟩))) | (refine awp_ret ?_; (simp [go_sem, hww, hz, hw2, hjn, h1, h2, hqi, hji, hwj, hwd]; (try simp (disch := omega) only [w64, td, tm]); try (refine ⟨by kernel_rfl, ?_⟩))) | (refine awp_skip ?_; (simp [go_sem, hww, hz, hw2, hjn, h1, h2, hqi, hji, hwj, hwd]; (try simp (disch := omega) only [w64, td, tm]); try (refine ⟨by kernel_rfl, ?_⟩))) | (refine awp_exit ?_; (simp [go_sem, hww, hz, hw2, hjn, h1, h2, hqi, hji, hwj, hwd]; (try simp (disch := omega) only [w64, td, tm]); try (refine ⟨by kernel_rfl, ?_⟩)))))
          refine ⟨j + 1, by omega, by omega, ?_⟩
          rw [e1, e2]
          refine sub_of _ [.old 0 ⟨3, 1, (((drawSt seed i j).2.set j (drawSt seed i j).2[q]).set q (drawSt seed i j).2[j]).map ii⟩, .old 1 ⟨51, 1, [ii x]⟩] (by simp [go_sem, hzs]) ?_
          simp [go_sem, hwj]
        · have hjk : j = k := by simp at hc; omega
          subst hjk
          have hlen := dl_len seed i j
          have hcl : Means true Try.prog 21 [.sl (((drawSt seed i j).2.map ii).take j)] (il (drw seed i j)) := by
            have := clone_m (drw seed i j) (by simp [drw]; omega)
            unfold drw at this ⊢
            have e : il ((drawSt seed i j).2.take j) = .sl (((drawSt seed i j).2.map ii).take j) := by simp only [il, List.map_take]
            rw [← e]; exact this
          (repeat (first | refine awp_seq ?_ | refine awp_block ?_ | (refine awp_runG [0, 1, 2, 6, 7, 8, 9, 10, 11, 26, 30, 31, 32, 41, 42, 43] hX ?_; (simp [go_sem, hk]; try (refine ⟨by kernel_rfl, ?_⟩))) | (refine awp_drawnG [0, 1, 2, 6, 7, 8, 9, 10, 11, 26, 30, 31, 32, 41, 42, 43] hX mixed ?_; (simp [go_sem, hk]; try (refine ⟨by kernel_rfl, ?_⟩))) | (refine awp_ret ?_; (simp [go_sem, hk]; try (refine ⟨by kernel_rfl, ?_⟩))) | (refine awp_skip ?_; (simp [go_sem, hk]; try (refine ⟨by kernel_rfl, ?_⟩))) | (refine awp_exit ?_; (simp [go_sem, hk]; try (refine ⟨by kernel_rfl, ?_⟩)))))
          try (simp [go_sem, hk]; try (refine ⟨by kernel_rfl, ?_⟩))
          first | refine callK_intro (hcl) rfl (by simp [go_sem]) rfl ?_ | refine callT_intro (hcl) rfl (by simp [go_sem]) rfl ?_
          try (simp [go_sem]; try (refine ⟨by kernel_rfl, ?_⟩))
          (repeat (first | refine awp_seq ?_ | refine awp_block ?_ | (refine awp_runG [0, 1, 2, 6, 7, 8, 9, 10, 11, 26, 30, 31, 32, 41, 42, 43] hX ?_; (simp [go_sem]; try (refine ⟨by kernel_rfl, ?_⟩))) | (refine awp_drawnG [0, 1, 2, 6, 7, 8, 9, 10, 11, 26, 30, 31, 32, 41, 42, 43] hX mixed ?_; (simp [go_sem]; try (refine ⟨by kernel_rfl, ?_⟩))) | (refine awp_ret ?_; (simp [go_sem]; try (refine ⟨by kernel_rfl, ?_⟩))) | (refine awp_skip ?_; (simp [go_sem]; try (refine ⟨by kernel_rfl, ?_⟩))) | (refine awp_exit ?_; (simp [go_sem]; try (refine ⟨by kernel_rfl, ?_⟩)))))

theorem first_m (s : Int) (h : -9223372036854775808 ≤ s ∧ s ≤ 9223372036854775807) : Means true Try.prog 31 [ii s] (ii (g0 s)) := by
  have e : (s.tmod 2147483648 + 2147483648).tmod 2147483648 = g0 s := by
    unfold g0
    by_cases hs : 0 ≤ s
    · rw [Int.tmod_eq_emod_of_nonneg hs, Int.tmod_eq_emod_of_nonneg (by omega)]; omega
    · have : s.tmod 2147483648 = -((-s) % 2147483648) := by
        rw [← Int.tmod_eq_emod_of_nonneg (by omega), Int.neg_tmod, Int.neg_neg]
      rw [this, Int.tmod_eq_emod_of_nonneg (by omega)]; omega
  have hb : -2147483648 ≤ s.tmod 2147483648 ∧ s.tmod 2147483648 ≤ 2147483648 := by
    by_cases hs : 0 ≤ s
    · rw [Int.tmod_eq_emod_of_nonneg hs]; omega
    · have : s.tmod 2147483648 = -((-s) % 2147483648) := by
        rw [← Int.tmod_eq_emod_of_nonneg (by omega), Int.neg_tmod, Int.neg_neg]
      rw [this]; omega
  have hw1 := w64 (x := s.tmod 2147483648 + 2147483648) (by omega) (by omega)
  refine means_fn true 7 [.tmp 2] Try.func31 rfl rfl rfl (by simp) (by decide) rfl fun X hX => ?_
  (repeat (first | refine awp_seq ?_ | refine awp_block ?_ | (refine awp_runG [0, 2] hX ?_; (simp [go_sem, hw1, e]; try (refine ⟨by kernel_rfl, ?_⟩))) | (refine awp_drawnG [0, 2] hX mixed ?_; (simp [go_sem, hw1, e]; try (refine ⟨by kernel_rfl, ?_⟩))) | (refine awp_ret ?_; (simp [go_sem, hw1, e]; try (refine ⟨by kernel_rfl, ?_⟩))) | (refine awp_skip ?_; (simp [go_sem, hw1, e]; try (refine ⟨by kernel_rfl, ?_⟩))) | (refine awp_exit ?_; (simp [go_sem, hw1, e]; try (refine ⟨by kernel_rfl, ?_⟩)))))
  try simp [e]
theorem after_m (x : Int) (hx : 0 ≤ x ∧ x < 2147483648) : Means true Try.prog 32 [ii x] (ii (gx x)) := by
  have e : (1103515245 * x + 12345).tmod 2147483648 = gx x := Int.tmod_eq_emod_of_nonneg (by omega)
  refine means_fn true 7 [.tmp 2] Try.func32 rfl rfl rfl (by simp) (by decide) rfl fun X hX => ?_
  (repeat (first | refine awp_seq ?_ | refine awp_block ?_ | (refine awp_runG [0, 2] hX ?_; (simp [go_sem, e]; (try simp (disch := omega) only [w64, td, tm]); try (refine ⟨by kernel_rfl, ?_⟩))) | (refine awp_drawnG [0, 2] hX mixed ?_; (simp [go_sem, e]; (try simp (disch := omega) only [w64, td, tm]); try (refine ⟨by kernel_rfl, ?_⟩))) | (refine awp_ret ?_; (simp [go_sem, e]; (try simp (disch := omega) only [w64, td, tm]); try (refine ⟨by kernel_rfl, ?_⟩))) | (refine awp_skip ?_; (simp [go_sem, e]; (try simp (disch := omega) only [w64, td, tm]); try (refine ⟨by kernel_rfl, ?_⟩))) | (refine awp_exit ?_; (simp [go_sem, e]; (try simp (disch := omega) only [w64, td, tm]); try (refine ⟨by kernel_rfl, ?_⟩)))))
  try rfl

set_option maxHeartbeats 4000000 in
set_option maxRecDepth 20000 in
theorem rdraw_m (seed : Int) (hs : -9223372036854775808 ≤ seed ∧ seed ≤ 9223372036854775807) (n k : Nat) (hn : n ≤ 4000) (hk : k ≤ n) : Means false Try.prog 25 [ii seed, ii n, ii k] (il (drw seed n k)) := by
  refine means_fn false 72 [.tmp 6] Try.func25 rfl rfl rfl (by simp) (by decide) rfl fun X hX => ?_
  (repeat (first | refine awp_seq ?_ | refine awp_block ?_ | (refine awp_runG [0, 1, 2, 6, 7, 8, 9, 10, 11, 12, 27, 30, 41] hX ?_; (simp [go_sem]; try (refine ⟨by kernel_rfl, ?_⟩))) | (refine awp_drawnG [0, 1, 2, 6, 7, 8, 9, 10, 11, 12, 27, 30, 41] hX mixed ?_; (simp [go_sem]; try (refine ⟨by kernel_rfl, ?_⟩))) | (refine awp_ret ?_; (simp [go_sem]; try (refine ⟨by kernel_rfl, ?_⟩))) | (refine awp_skip ?_; (simp [go_sem]; try (refine ⟨by kernel_rfl, ?_⟩))) | (refine awp_exit ?_; (simp [go_sem]; try (refine ⟨by kernel_rfl, ?_⟩)))))
  refine awp_cond (b := false) (by simp [go_sem]; omega) (fun hb => by cases hb) (fun _ => ?_)
  (repeat (first | refine awp_seq ?_ | refine awp_block ?_ | (refine awp_runG [0, 1, 2, 6, 7, 8, 9, 10, 11, 12, 27, 30, 41] hX ?_; (simp [go_sem]; try (refine ⟨by kernel_rfl, ?_⟩))) | (refine awp_drawnG [0, 1, 2, 6, 7, 8, 9, 10, 11, 12, 27, 30, 41] hX mixed ?_; (simp [go_sem]; try (refine ⟨by kernel_rfl, ?_⟩))) | (refine awp_ret ?_; (simp [go_sem]; try (refine ⟨by kernel_rfl, ?_⟩))) | (refine awp_skip ?_; (simp [go_sem]; try (refine ⟨by kernel_rfl, ?_⟩))) | (refine awp_exit ?_; (simp [go_sem]; try (refine ⟨by kernel_rfl, ?_⟩)))))
  refine awp_loop (fun i : Nat => ⟨mkE [(0, ii seed), (1, ii n), (2, ii k), (7, .ow 0), (8, ii i)], [rowI (iota i)]⟩) (fun i => i ≤ n) (fun i => n - i) 0 ?_ ?_ ?_
  · refine sub_of _ [.birth 3 1] (by simp [go_sem, iota]) ?_
    simp [go_sem, iota]
  · omega
  · intro i hi
    (repeat (first | refine awp_seq ?_ | refine awp_block ?_ | (refine awp_runG [0, 1, 2, 6, 7, 8, 9, 10, 11, 12, 27, 30, 41] hX ?_; (simp [go_sem]; try (refine ⟨by kernel_rfl, ?_⟩))) | (refine awp_drawnG [0, 1, 2, 6, 7, 8, 9, 10, 11, 12, 27, 30, 41] hX mixed ?_; (simp [go_sem]; try (refine ⟨by kernel_rfl, ?_⟩))) | (refine awp_ret ?_; (simp [go_sem]; try (refine ⟨by kernel_rfl, ?_⟩))) | (refine awp_skip ?_; (simp [go_sem]; try (refine ⟨by kernel_rfl, ?_⟩))) | (refine awp_exit ?_; (simp [go_sem]; try (refine ⟨by kernel_rfl, ?_⟩)))))
    refine awp_cond (b := decide (i < n)) (by simp [go_sem]) (fun hb => ?_) (fun hb => ?_)
    · simp at hb
      (repeat (first | refine awp_seq ?_ | refine awp_block ?_ | (refine awp_runG [0, 1, 2, 6, 7, 8, 9, 10, 11, 12, 27, 30, 41] hX ?_; (simp [go_sem]; (try simp (disch := omega) only [w64, td, tm]); try (refine ⟨by kernel_rfl, ?_⟩))) | (refine awp_drawnG [0, 1, 2, 6, 7, 8, 9, 10, 11, 12, 27, 30, 41] hX mixed ?_; (simp [go_sem]; (try simp (disch := omega) only [w64, td, tm]); try (refine ⟨by kernel_rfl, ?_⟩))) | (refine awp_ret ?_; (simp [go_sem]; (try simp (disch := omega) only [w64, td, tm]); try (refine ⟨by kernel_rfl, ?_⟩))) | (refine awp_skip ?_; (simp [go_sem]; (try simp (disch := omega) only [w64, td, tm]); try (refine ⟨by kernel_rfl, ?_⟩))) | (refine awp_exit ?_; (simp [go_sem]; (try simp (disch := omega) only [w64, td, tm]); try (refine ⟨by kernel_rfl, ?_⟩)))))
      (repeat refine And.intro (by first | omega | (unfold maxLen; omega) | kernel_rfl | (refine ⟨by first | omega | (unfold maxLen; omega), by first | omega | (unfold maxLen; omega)⟩) | grind) ?_)
      (repeat (first | refine awp_seq ?_ | refine awp_block ?_ | (refine awp_runG [0, 1, 2, 6, 7, 8, 9, 10, 11, 12, 27, 30, 41] hX ?_; (simp [go_sem]; (try simp (disch := omega) only [w64, td, tm]); try (refine ⟨by kernel_rfl, ?_⟩))) | (refine awp_drawnG [0, 1, 2, 6, 7, 8, 9, 10, 11, 12, 27, 30, 41] hX mixed ?_; (simp [go_sem]; (try simp (disch := omega) only [w64, td, tm]); try (refine ⟨by kernel_rfl, ?_⟩))) | (refine awp_ret ?_; (simp [go_sem]; (try simp (disch := omega) only [w64, td, tm]); try (refine ⟨by kernel_rfl, ?_⟩))) | (refine awp_skip ?_; (simp [go_sem]; (try simp (disch := omega) only [w64, td, tm]); try (refine ⟨by kernel_rfl, ?_⟩))) | (refine awp_exit ?_; (simp [go_sem]; (try simp (disch := omega) only [w64, td, tm]); try (refine ⟨by kernel_rfl, ?_⟩)))))
      refine ⟨i + 1, by omega, by omega, ?_⟩
      rw [iota_succ]
      refine sub_of _ [.old 2 ⟨3, 1, (iota i ++ [(i : Int)]).map ii⟩] (by simp [go_sem]) ?_
      simp [go_sem]
    · have hin : i = n := by simp at hb; omega
      subst hin
      (repeat (first | refine awp_seq ?_ | refine awp_block ?_ | (refine awp_runG [0, 1, 2, 6, 7, 8, 9, 10, 11, 12, 27, 30, 41] hX ?_; (simp [go_sem]; try (refine ⟨by kernel_rfl, ?_⟩))) | (refine awp_drawnG [0, 1, 2, 6, 7, 8, 9, 10, 11, 12, 27, 30, 41] hX mixed ?_; (simp [go_sem]; try (refine ⟨by kernel_rfl, ?_⟩))) | (refine awp_ret ?_; (simp [go_sem]; try (refine ⟨by kernel_rfl, ?_⟩))) | (refine awp_skip ?_; (simp [go_sem]; try (refine ⟨by kernel_rfl, ?_⟩))) | (refine awp_exit ?_; (simp [go_sem]; try (refine ⟨by kernel_rfl, ?_⟩)))))
      first | refine callK_intro (first_m seed hs) rfl (by simp [go_sem]) rfl ?_ | refine callT_intro (first_m seed hs) rfl (by simp [go_sem]) rfl ?_
      try (simp [go_sem]; try (refine ⟨by kernel_rfl, ?_⟩))
      (repeat (first | refine awp_seq ?_ | refine awp_block ?_ | (refine awp_runG [0, 1, 2, 6, 7, 8, 9, 10, 11, 12, 27, 30, 41] hX ?_; (simp [go_sem]; try (refine ⟨by kernel_rfl, ?_⟩))) | (refine awp_drawnG [0, 1, 2, 6, 7, 8, 9, 10, 11, 12, 27, 30, 41] hX mixed ?_; (simp [go_sem]; try (refine ⟨by kernel_rfl, ?_⟩))) | (refine awp_ret ?_; (simp [go_sem]; try (refine ⟨by kernel_rfl, ?_⟩))) | (refine awp_skip ?_; (simp [go_sem]; try (refine ⟨by kernel_rfl, ?_⟩))) | (refine awp_exit ?_; (simp [go_sem]; try (refine ⟨by kernel_rfl, ?_⟩)))))
      refine awp_loop (fun j : Nat => ⟨mkE [(0, ii seed), (1, ii i), (2, ii k), (7, .ow 0), (9, ii (drawSt seed i j).1), (10, ii j)], [rowI (drawSt seed i j).2]⟩) (fun j => j ≤ k) (fun j => k - j) 0 ?_ ?_ ?_
      · refine sub_of _ [.old 0 ⟨3, 1, (iota i).map ii⟩] (by simp [go_sem, drawSt]) ?_
        simp [go_sem, drawSt]
      · omega
      · intro j hj
        have hx := dx_bd seed i j
        (repeat (first | refine awp_seq ?_ | refine awp_block ?_ | (refine awp_runG [0, 1, 2, 6, 7, 8, 9, 10, 11, 12, 27, 30, 41] hX ?_; (simp [go_sem]; try (refine ⟨by kernel_rfl, ?_⟩))) | (refine awp_drawnG [0, 1, 2, 6, 7, 8, 9, 10, 11, 12, 27, 30, 41] hX mixed ?_; (simp [go_sem]; try (refine ⟨by kernel_rfl, ?_⟩))) | (refine awp_ret ?_; (simp [go_sem]; try (refine ⟨by kernel_rfl, ?_⟩))) | (refine awp_skip ?_; (simp [go_sem]; try (refine ⟨by kernel_rfl, ?_⟩))) | (refine awp_exit ?_; (simp [go_sem]; try (refine ⟨by kernel_rfl, ?_⟩)))))
        refine awp_cond (b := decide (j < k)) (by simp [go_sem]) (fun hc => ?_) (fun hc => ?_)
        · simp at hc
          have hji : j < i := by omega
          have hgx := gx_bd (drawSt seed i j).1
          have hz := jat_z hji hgx.1
          have hjb := jat_bd hji (gx (drawSt seed i j).1)
          have hlen := dl_len seed i j
          have hjn : ((i : Int) - j) ≠ 0 := by omega
          have hww := w64 (x := (i : Int) - j) (by omega) (by omega)
          have e1 : (drawSt seed i (j + 1)).1 = gx (drawSt seed i j).1 := rfl
          have e2 : (drawSt seed i (j + 1)).2 = swp (drawSt seed i j).2 j (jat i j (gx (drawSt seed i j).1)) := rfl
          (repeat (first | refine awp_seq ?_ | refine awp_block ?_ | (refine awp_runG [0, 1, 2, 6, 7, 8, 9, 10, 11, 12, 27, 30, 41] hX ?_; (simp [go_sem, hji]; try (refine ⟨by kernel_rfl, ?_⟩))) | (refine awp_drawnG [0, 1, 2, 6, 7, 8, 9, 10, 11, 12, 27, 30, 41] hX mixed ?_; (simp [go_sem, hji]; try (refine ⟨by kernel_rfl, ?_⟩))) | (refine awp_ret ?_; (simp [go_sem, hji]; try (refine ⟨by kernel_rfl, ?_⟩))) | (refine awp_skip ?_; (simp [go_sem, hji]; try (refine ⟨by kernel_rfl, ?_⟩))) | (refine awp_exit ?_; (simp [go_sem, hji]; try (refine ⟨by kernel_rfl, ?_⟩)))))
          first | refine callK_intro (after_m _ hx) rfl (by simp [go_sem]) rfl ?_ | refine callT_intro (after_m _ hx) rfl (by simp [go_sem]) rfl ?_
          try (simp [go_sem]; try (refine ⟨by kernel_rfl, ?_⟩))
          generalize gx (drawSt seed i j).1 = x at hz hjb hgx e1 e2 ⊢
          generalize jat i j x = q at hz hjb e2 ⊢
          have hw2 := w64 (x := (q : Int)) (by omega) (by omega)
          have ht : x.tdiv 65536 = x / 65536 := Int.tdiv_eq_ediv_of_nonneg hgx.1
          have h1 : j < (drawSt seed i j).2.length := by omega
          have h2 : q < (drawSt seed i j).2.length := by omega
          rw [swp_at h1 h2] at e2
          have hqi : q < i := hjb.2
          have hzs : zoneEs ((((drawSt seed i j).2.map ii).set j (ii (drawSt seed i j).2[q])).set q (ii (drawSt seed i j).2[j])) = true := by
            rw [← List.map_set, ← List.map_set]; exact zoneEs_map _ _ (fun _ => rfl)
          have hwd := w64 (x := x / 65536) (by omega) (by omega)
          have hwj := w64 (x := (j : Int) + 1) (by omega) (by omega)
          (repeat (first | refine awp_seq ?_ | refine awp_block ?_ | (refine awp_runG [0, 1, 2, 6, 7, 8, 9, 10, 11, 12, 27, 30, 41] hX ?_; (simp [go_sem, hww, ht, hz, hw2, hjn, h1, h2, hqi, hji, hwj, hwd]; try (refine ⟨by kernel_rfl, ?_⟩))) | (refine awp_drawnG [0, 1, 2, 6, 7, 8, 9, 10, 11, 12, 27, 30, 41] hX mixed ?_; (simp [go_sem, hww, ht, hz, hw2, hjn, h1, h2, hqi, hji, hwj, hwd]; try (refine ⟨by kernel_rfl, ?_⟩))) | (refine awp_ret ?_; (simp [go_sem, hww, ht, hz, hw2, hjn, h1, h2, hqi, hji, hwj, hwd]; try (refine ⟨by kernel_rfl, ?_⟩))) | (refine awp_skip ?_; (simp [go_sem, hww, ht, hz, hw2, hjn, h1, h2, hqi, hji, hwj, hwd]; try (refine ⟨by kernel_rfl, ?_⟩))) | (refine awp_exit ?_; (simp [go_sem, hww, ht, hz, hw2, hjn, h1, h2, hqi, hji, hwj, hwd]; try (refine ⟨by kernel_rfl, ?_⟩)))))
          try (simp [go_sem, hww, ht, hz, hw2, hjn, h1, h2, hqi, hji, hwj, hwd]; try (refine ⟨by kernel_rfl, ?_⟩))
          (repeat (first | refine awp_seq ?_ | refine awp_block ?_ | (refine awp_runG [0, 1, 2, 6, 7, 8, 9, 10, 11, 12, 27, 30, 41] hX ?_; (simp [go_sem, hww, ht, hz, hw2, hjn, h1, h2, hqi, hji, hwj, hwd]; try (refine ⟨by kernel_rfl, ?_⟩))) | (refine awp_drawnG [0, 1, 2, 6, 7, 8, 9, 10, 11, 12, 27, 30, 41] hX mixed ?_; (simp [go_sem, hww, ht, hz, hw2, hjn, h1, h2, hqi, hji, hwj, hwd]; try (refine ⟨by kernel_rfl, ?_⟩))) | (refine awp_ret ?_; (simp [go_sem, hww, ht, hz, hw2, hjn, h1, h2, hqi, hji, hwj, hwd]; try (refine ⟨by kernel_rfl, ?_⟩))) | (refine awp_skip ?_; (simp [go_sem, hww, ht, hz, hw2, hjn, h1, h2, hqi, hji, hwj, hwd]; try (refine ⟨by kernel_rfl, ?_⟩))) | (refine awp_exit ?_; (simp [go_sem, hww, ht, hz, hw2, hjn, h1, h2, hqi, hji, hwj, hwd]; try (refine ⟨by kernel_rfl, ?_⟩)))))
          (repeat refine And.intro (by first | omega | (unfold maxLen; omega) | kernel_rfl | (refine ⟨by first | omega | (unfold maxLen; omega), by first | omega | (unfold maxLen; omega)⟩) | grind) ?_)
          (repeat (first | refine awp_seq ?_ | refine awp_block ?_ | (refine awp_runG [0, 1, 2, 6, 7, 8, 9, 10, 11, 12, 27, 30, 41] hX ?_; (simp [go_sem, hww, ht, hz, hw2, hjn, h1, h2, hqi, hji, hwj, hwd]; (try simp (disch := omega) only [w64, td, tm]); try (refine ⟨by kernel_rfl, ?_⟩))) | (refine awp_drawnG [0, 1, 2, 6, 7, 8, 9, 10, 11, 12, 27, 30, 41] hX mixed ?_; (simp [go_sem, hww, ht, hz, hw2, hjn, h1, h2, hqi, hji, hwj, hwd]; (try simp (disch := omega) only [w64, td, tm]); try (refine ⟨by kernel_rfl, ?_⟩))) | (refine awp_ret ?_; (simp [go_sem, hww, ht, hz, hw2, hjn, h1, h2, hqi, hji, hwj, hwd]; (try simp (disch := omega) only [w64, td, tm]); try (refine ⟨by kernel_rfl, ?_⟩))) | (refine awp_skip ?_; (simp [go_sem, hww, ht, hz, hw2, hjn, h1, h2, hqi, hji, hwj, hwd]; (try simp (disch := omega) only [w64, td, tm]); try (refine ⟨by kernel_rfl, ?_⟩))) | (refine awp_exit ?_; (simp [go_sem, hww, ht, hz, hw2, hjn, h1, h2, hqi, hji, hwj, hwd]; (try simp (disch := omega) only [w64, td, tm]); try (refine ⟨by kernel_rfl, ?_⟩)))))
          (repeat refine And.intro (by first | omega | (unfold maxLen; omega) | kernel_rfl | (refine ⟨by first | omega | (unfold maxLen; omega), by first | omega | (unfold maxLen; omega)⟩) | grind) ?_)
          (repeat (first | refine awp_seq ?_ | refine awp_block ?_ | (refine awp_runG [0, 1, 2, 6, 7, 8, 9, 10, 11, 12, 27, 30, 41] hX ?_; (simp [go_sem, hww, ht, hz, hw2, hjn, h1, h2, hqi, hji, hwj, hwd]; (try simp (disch := omega) only [w64, td, tm]); try (refine ⟨by kernel_rfl, ?_⟩))) | (refine awp_drawnG [0, 1, 2, 6, 7, 8, 9, 10, 11, 12, 27, 30, 41] hX mixed ?_; (simp [go_sem, hww, ht, hz, hw2, hjn, h1, h2, hqi, hji, hwj, hwd]; (try simp (disch := omega) only [w64, td, tm]); try (refine ⟨by kernel_rfl, ?_⟩))) | (refine awp_ret ?_; (simp [go_sem, hww, ht, hz, hw2, hjn, h1, h2, hqi, hji, hwj, hwd]; (try simp (disch := omega) only [w64, td, tm]); try (refine ⟨by kernel_rfl, ?_⟩))) | (refine awp_skip ?_; (simp [go_sem, hww, ht, hz, hw2, hjn, h1, h2, hqi, hji, hwj, hwd]; (try simp (disch := omega) only [w64, td, tm]); try (refine ⟨by kernel_rfl, ?_⟩))) | (refine awp_exit ?_; (simp [go_sem, hww, ht, hz, hw2, hjn, h1, h2, hqi, hji, hwj, hwd]; (try simp (disch := omega) only [w64, td, tm]); try (refine ⟨by kernel_rfl, ?_⟩)))))
          refine ⟨j + 1, by omega, by omega, ?_⟩
          rw [e1, e2]
          refine sub_of _ [.old 0 ⟨3, 1, (((drawSt seed i j).2.set j (drawSt seed i j).2[q]).set q (drawSt seed i j).2[j]).map ii⟩] (by simp [go_sem, hzs]) ?_
          simp [go_sem, hwj]
        · have hjk : j = k := by simp at hc; omega
          subst hjk
          have hlen := dl_len seed i j
          (repeat (first | refine awp_seq ?_ | refine awp_block ?_ | (refine awp_runG [0, 1, 2, 6, 7, 8, 9, 10, 11, 12, 27, 30, 41] hX ?_; (simp [go_sem, hk]; try (refine ⟨by kernel_rfl, ?_⟩))) | (refine awp_drawnG [0, 1, 2, 6, 7, 8, 9, 10, 11, 12, 27, 30, 41] hX mixed ?_; (simp [go_sem, hk]; try (refine ⟨by kernel_rfl, ?_⟩))) | (refine awp_ret ?_; (simp [go_sem, hk]; try (refine ⟨by kernel_rfl, ?_⟩))) | (refine awp_skip ?_; (simp [go_sem, hk]; try (refine ⟨by kernel_rfl, ?_⟩))) | (refine awp_exit ?_; (simp [go_sem, hk]; try (refine ⟨by kernel_rfl, ?_⟩)))))
          (repeat refine And.intro (by first | omega | (unfold maxLen; omega) | kernel_rfl | (refine ⟨by first | omega | (unfold maxLen; omega), by first | omega | (unfold maxLen; omega)⟩) | grind) ?_)
          (repeat (first | refine awp_seq ?_ | refine awp_block ?_ | (refine awp_runG [0, 1, 2, 6, 7, 8, 9, 10, 11, 12, 27, 30, 41] hX ?_; (simp [go_sem, hk]; try (refine ⟨by kernel_rfl, ?_⟩))) | (refine awp_drawnG [0, 1, 2, 6, 7, 8, 9, 10, 11, 12, 27, 30, 41] hX mixed ?_; (simp [go_sem, hk]; try (refine ⟨by kernel_rfl, ?_⟩))) | (refine awp_ret ?_; (simp [go_sem, hk]; try (refine ⟨by kernel_rfl, ?_⟩))) | (refine awp_skip ?_; (simp [go_sem, hk]; try (refine ⟨by kernel_rfl, ?_⟩))) | (refine awp_exit ?_; (simp [go_sem, hk]; try (refine ⟨by kernel_rfl, ?_⟩)))))
          simp [drw, hk, List.map_take]

end Go.Proofs.Ytflcmfeafiippaa
