/-
  Layer 35: members, voices that count.
-/
import Derived.Test.YtflcmfeafiippaaFacts
import Derived.Test.YtflcmfeafiippaaJuryP
set_option linter.all false
namespace Go.Proofs.Ytflcmfeafiippaa
open Go.RowKit Go.Ab
theorem mixed : Try.prog.follows .mixedOrders = true := by kernel_rfl

abbrev ii (n : Int) : AV := .v (.int .i64 n)
abbrev bb (b : Bool) : AV := .v (.bool b)
abbrev il (l : List Int) : AV := .sl (l.map ii)
@[go_sem] theorem nth_ii {L : List Int} {k : Nat} (h : k < L.length) : nth (L.map ii) k = ii L[k] := nth_map ii h
@[go_sem] theorem beqI (a b : Int) : (a == b) = decide (a = b) := by rw [Bool.eq_iff_iff]; simp
@[go_sem] theorem bneI (a b : Int) : (a != b) = !decide (a = b) := by rw [bne, beqI]
@[go_sem] theorem beqB (a b : Bool) : (a == b) = decide (a = b) := by cases a <;> cases b <;> rfl
@[go_sem] theorem wm1 : IntKind.i64.wrap (-1) = -1 := by decide
@[go_sem] theorem nth_nil (n : Nat) : nth [] n = .bad := rfl
attribute [local irreducible] AWP Go.Ab.Sub Means MeansH CallK CallG CallT CallGT

abbrev vo (v : V) : AV := .agg [ii v.mark, ii v.who, bb v.yes, ii v.day]
@[go_sem] theorem nth_vo {L : List V} {k : Nat} (h : k < L.length) : nth (L.map vo) k = vo L[k] := nth_map vo h

set_option maxHeartbeats 400000 in
theorem index_m (L : List Int) (hl : L.length ≤ 9223372036854775807) (x : Int) : Means true Try.prog 29 [il L, ii x] (ii (idx L x)) := by
  refine means_fn true 19 [.tmp 4] Try.func29 rfl rfl rfl (by simp) (by decide) rfl fun X hX => ?_
  (repeat (first | refine awp_seq ?_ | refine awp_block ?_ | (refine awp_runG [0, 1, 4, 5, 7, 8, 9, 16] hX ?_; (simp [go_sem]; try (refine ⟨by kernel_rfl, ?_⟩))) | (refine awp_drawnG [0, 1, 4, 5, 7, 8, 9, 16] hX mixed ?_; (simp [go_sem]; try (refine ⟨by kernel_rfl, ?_⟩))) | (refine awp_ret ?_; (simp [go_sem]; try (refine ⟨by kernel_rfl, ?_⟩))) | (refine awp_skip ?_; (simp [go_sem]; try (refine ⟨by kernel_rfl, ?_⟩))) | (refine awp_exit ?_; (simp [go_sem]; try (refine ⟨by kernel_rfl, ?_⟩)))))
  refine awp_loop (fun k : Nat => ⟨mkE [(0, il L), (1, ii x), (4, ii 0), (7, ii L.length), (8, ii k)], []⟩) (fun k => k ≤ L.length ∧ x ∉ L.take k) (fun k => L.length - k) 0 ?_ ?_ ?_
  · refine sub_of _ [] (by simp [go_sem]) ?_
    simp [go_sem]
  · simp
  · rintro k ⟨hk, hn⟩
    (repeat (first | refine awp_seq ?_ | refine awp_block ?_ | (refine awp_runG [0, 1, 4, 5, 7, 8, 9, 16] hX ?_; (simp [go_sem]; try (refine ⟨by kernel_rfl, ?_⟩))) | (refine awp_drawnG [0, 1, 4, 5, 7, 8, 9, 16] hX mixed ?_; (simp [go_sem]; try (refine ⟨by kernel_rfl, ?_⟩))) | (refine awp_ret ?_; (simp [go_sem]; try (refine ⟨by kernel_rfl, ?_⟩))) | (refine awp_skip ?_; (simp [go_sem]; try (refine ⟨by kernel_rfl, ?_⟩))) | (refine awp_exit ?_; (simp [go_sem]; try (refine ⟨by kernel_rfl, ?_⟩)))))
    refine awp_cond (b := decide (k < L.length)) (by simp [go_sem]) (fun hb => ?_) (fun hb => ?_)
    · simp at hb
      (repeat (first | refine awp_seq ?_ | refine awp_block ?_ | (refine awp_runG [0, 1, 4, 5, 7, 8, 9, 16] hX ?_; (simp [go_sem, hb]; try (refine ⟨by kernel_rfl, ?_⟩))) | (refine awp_drawnG [0, 1, 4, 5, 7, 8, 9, 16] hX mixed ?_; (simp [go_sem, hb]; try (refine ⟨by kernel_rfl, ?_⟩))) | (refine awp_ret ?_; (simp [go_sem, hb]; try (refine ⟨by kernel_rfl, ?_⟩))) | (refine awp_skip ?_; (simp [go_sem, hb]; try (refine ⟨by kernel_rfl, ?_⟩))) | (refine awp_exit ?_; (simp [go_sem, hb]; try (refine ⟨by kernel_rfl, ?_⟩)))))
      refine awp_cond (b := decide (x = L[k])) (by simp [go_sem]) (fun hc => ?_) (fun hc => ?_)
      · simp at hc
        subst hc
        (repeat (first | refine awp_seq ?_ | refine awp_block ?_ | (refine awp_runG [0, 1, 4, 5, 7, 8, 9, 16] hX ?_; (simp [go_sem]; try (refine ⟨by kernel_rfl, ?_⟩))) | (refine awp_drawnG [0, 1, 4, 5, 7, 8, 9, 16] hX mixed ?_; (simp [go_sem]; try (refine ⟨by kernel_rfl, ?_⟩))) | (refine awp_ret ?_; (simp [go_sem]; try (refine ⟨by kernel_rfl, ?_⟩))) | (refine awp_skip ?_; (simp [go_sem]; try (refine ⟨by kernel_rfl, ?_⟩))) | (refine awp_exit ?_; (simp [go_sem]; try (refine ⟨by kernel_rfl, ?_⟩)))))
        simp [idx_at hb hn]
      · simp at hc
        (repeat (first | refine awp_seq ?_ | refine awp_block ?_ | (refine awp_runG [0, 1, 4, 5, 7, 8, 9, 16] hX ?_; (simp [go_sem]; (try simp (disch := omega) only [w64, td, tm]); try (refine ⟨by kernel_rfl, ?_⟩))) | (refine awp_drawnG [0, 1, 4, 5, 7, 8, 9, 16] hX mixed ?_; (simp [go_sem]; (try simp (disch := omega) only [w64, td, tm]); try (refine ⟨by kernel_rfl, ?_⟩))) | (refine awp_ret ?_; (simp [go_sem]; (try simp (disch := omega) only [w64, td, tm]); try (refine ⟨by kernel_rfl, ?_⟩))) | (refine awp_skip ?_; (simp [go_sem]; (try simp (disch := omega) only [w64, td, tm]); try (refine ⟨by kernel_rfl, ?_⟩))) | (refine awp_exit ?_; (simp [go_sem]; (try simp (disch := omega) only [w64, td, tm]); try (refine ⟨by kernel_rfl, ?_⟩)))))
        refine ⟨k + 1, ⟨by omega, by rw [mem_take_succ hb]; exact fun h => h.elim hn hc⟩, by omega, ?_⟩
        refine sub_of _ [] (by simp [go_sem]) ?_
        simp [go_sem]
    · simp at hb
      (repeat (first | refine awp_seq ?_ | refine awp_block ?_ | (refine awp_runG [0, 1, 4, 5, 7, 8, 9, 16] hX ?_; (simp [go_sem]; try (refine ⟨by kernel_rfl, ?_⟩))) | (refine awp_drawnG [0, 1, 4, 5, 7, 8, 9, 16] hX mixed ?_; (simp [go_sem]; try (refine ⟨by kernel_rfl, ?_⟩))) | (refine awp_ret ?_; (simp [go_sem]; try (refine ⟨by kernel_rfl, ?_⟩))) | (refine awp_skip ?_; (simp [go_sem]; try (refine ⟨by kernel_rfl, ?_⟩))) | (refine awp_exit ?_; (simp [go_sem]; try (refine ⟨by kernel_rfl, ?_⟩)))))
      have : k = L.length := by omega
      subst this
      rw [List.take_length] at hn
      simp [idx_none hn]

theorem contains_m (L : List Int) (hl : L.length ≤ 9223372036854775807) (x : Int) : Means true Try.prog 23 [il L, ii x] (bb (decide (x ∈ L))) := by
  refine means_fn true 9 [.tmp 4] Try.func23 rfl rfl rfl (by simp) (by decide) rfl fun X hX => ?_
  (repeat (first | refine awp_seq ?_ | refine awp_block ?_ | (refine awp_runG [0, 1, 4] hX ?_; (simp [go_sem]; try (refine ⟨by kernel_rfl, ?_⟩))) | (refine awp_drawnG [0, 1, 4] hX mixed ?_; (simp [go_sem]; try (refine ⟨by kernel_rfl, ?_⟩))) | (refine awp_ret ?_; (simp [go_sem]; try (refine ⟨by kernel_rfl, ?_⟩))) | (refine awp_skip ?_; (simp [go_sem]; try (refine ⟨by kernel_rfl, ?_⟩))) | (refine awp_exit ?_; (simp [go_sem]; try (refine ⟨by kernel_rfl, ?_⟩)))))
  first | refine callK_intro (index_m L hl x) rfl (by simp [go_sem]) rfl ?_ | refine callT_intro (index_m L hl x) rfl (by simp [go_sem]) rfl ?_
  try (simp [go_sem, idx_nonneg]; try (refine ⟨by kernel_rfl, ?_⟩))
  (repeat (first | refine awp_seq ?_ | refine awp_block ?_ | (refine awp_runG [0, 1, 4] hX ?_; (simp [go_sem]; try (refine ⟨by kernel_rfl, ?_⟩))) | (refine awp_drawnG [0, 1, 4] hX mixed ?_; (simp [go_sem]; try (refine ⟨by kernel_rfl, ?_⟩))) | (refine awp_ret ?_; (simp [go_sem]; try (refine ⟨by kernel_rfl, ?_⟩))) | (refine awp_skip ?_; (simp [go_sem]; try (refine ⟨by kernel_rfl, ?_⟩))) | (refine awp_exit ?_; (simp [go_sem]; try (refine ⟨by kernel_rfl, ?_⟩)))))

theorem containsT_m (L : List Int) (k : Nat) (hl : L.length ≤ 9223372036854775807) (x : Int) : Means true Try.prog 23 [.sl ((L.map ii).take k), ii x] (bb (decide (x ∈ L.take k))) := by
  rw [← List.map_take]
  exact contains_m _ (by simp; omega) x

set_option maxHeartbeats 400000 in
theorem at_m (L : List Int) (hl : L.length ≤ 9223372036854775807) (x : Int) : Means true Try.prog 16 [il L, ii x] (ii (idx L x)) := by
  refine means_fn true 19 [.tmp 4] Try.func16 rfl rfl rfl (by simp) (by decide) rfl fun X hX => ?_
  (repeat (first | refine awp_seq ?_ | refine awp_block ?_ | (refine awp_runG [0, 1, 4, 5, 9, 17] hX ?_; (simp [go_sem]; try (refine ⟨by kernel_rfl, ?_⟩))) | (refine awp_drawnG [0, 1, 4, 5, 9, 17] hX mixed ?_; (simp [go_sem]; try (refine ⟨by kernel_rfl, ?_⟩))) | (refine awp_ret ?_; (simp [go_sem]; try (refine ⟨by kernel_rfl, ?_⟩))) | (refine awp_skip ?_; (simp [go_sem]; try (refine ⟨by kernel_rfl, ?_⟩))) | (refine awp_exit ?_; (simp [go_sem]; try (refine ⟨by kernel_rfl, ?_⟩)))))
  refine awp_loop (fun k : Nat => ⟨mkE [(0, il L), (1, ii x), (4, ii 0), (5, ii k)], []⟩) (fun k => k ≤ L.length ∧ x ∉ L.take k) (fun k => L.length - k) 0 ?_ ?_ ?_
  · refine sub_of _ [] (by simp [go_sem]) ?_
    simp [go_sem]
  · simp
  · rintro k ⟨hk, hn⟩
    (repeat (first | refine awp_seq ?_ | refine awp_block ?_ | (refine awp_runG [0, 1, 4, 5, 9, 17] hX ?_; (simp [go_sem]; try (refine ⟨by kernel_rfl, ?_⟩))) | (refine awp_drawnG [0, 1, 4, 5, 9, 17] hX mixed ?_; (simp [go_sem]; try (refine ⟨by kernel_rfl, ?_⟩))) | (refine awp_ret ?_; (simp [go_sem]; try (refine ⟨by kernel_rfl, ?_⟩))) | (refine awp_skip ?_; (simp [go_sem]; try (refine ⟨by kernel_rfl, ?_⟩))) | (refine awp_exit ?_; (simp [go_sem]; try (refine ⟨by kernel_rfl, ?_⟩)))))
    refine awp_cond (b := decide (k < L.length)) (by simp [go_sem]) (fun hb => ?_) (fun hb => ?_)
    · simp at hb
      (repeat (first | refine awp_seq ?_ | refine awp_block ?_ | (refine awp_runG [0, 1, 4, 5, 9, 17] hX ?_; (simp [go_sem, hb]; try (refine ⟨by kernel_rfl, ?_⟩))) | (refine awp_drawnG [0, 1, 4, 5, 9, 17] hX mixed ?_; (simp [go_sem, hb]; try (refine ⟨by kernel_rfl, ?_⟩))) | (refine awp_ret ?_; (simp [go_sem, hb]; try (refine ⟨by kernel_rfl, ?_⟩))) | (refine awp_skip ?_; (simp [go_sem, hb]; try (refine ⟨by kernel_rfl, ?_⟩))) | (refine awp_exit ?_; (simp [go_sem, hb]; try (refine ⟨by kernel_rfl, ?_⟩)))))
      refine awp_cond (b := decide (L[k] = x)) (by simp [go_sem]) (fun hc => ?_) (fun hc => ?_)
      · simp at hc
        subst hc
        (repeat (first | refine awp_seq ?_ | refine awp_block ?_ | (refine awp_runG [0, 1, 4, 5, 9, 17] hX ?_; (simp [go_sem]; try (refine ⟨by kernel_rfl, ?_⟩))) | (refine awp_drawnG [0, 1, 4, 5, 9, 17] hX mixed ?_; (simp [go_sem]; try (refine ⟨by kernel_rfl, ?_⟩))) | (refine awp_ret ?_; (simp [go_sem]; try (refine ⟨by kernel_rfl, ?_⟩))) | (refine awp_skip ?_; (simp [go_sem]; try (refine ⟨by kernel_rfl, ?_⟩))) | (refine awp_exit ?_; (simp [go_sem]; try (refine ⟨by kernel_rfl, ?_⟩)))))
        simp [idx_at hb hn]
      · simp at hc
        (repeat (first | refine awp_seq ?_ | refine awp_block ?_ | (refine awp_runG [0, 1, 4, 5, 9, 17] hX ?_; (simp [go_sem]; (try simp (disch := omega) only [w64, td, tm]); try (refine ⟨by kernel_rfl, ?_⟩))) | (refine awp_drawnG [0, 1, 4, 5, 9, 17] hX mixed ?_; (simp [go_sem]; (try simp (disch := omega) only [w64, td, tm]); try (refine ⟨by kernel_rfl, ?_⟩))) | (refine awp_ret ?_; (simp [go_sem]; (try simp (disch := omega) only [w64, td, tm]); try (refine ⟨by kernel_rfl, ?_⟩))) | (refine awp_skip ?_; (simp [go_sem]; (try simp (disch := omega) only [w64, td, tm]); try (refine ⟨by kernel_rfl, ?_⟩))) | (refine awp_exit ?_; (simp [go_sem]; (try simp (disch := omega) only [w64, td, tm]); try (refine ⟨by kernel_rfl, ?_⟩)))))
        refine ⟨k + 1, ⟨by omega, by rw [mem_take_succ hb]; exact fun h => h.elim hn (fun e => hc e.symm)⟩, by omega, ?_⟩
        refine sub_of _ [] (by simp [go_sem]) ?_
        simp [go_sem]
    · simp at hb
      (repeat (first | refine awp_seq ?_ | refine awp_block ?_ | (refine awp_runG [0, 1, 4, 5, 9, 17] hX ?_; (simp [go_sem]; try (refine ⟨by kernel_rfl, ?_⟩))) | (refine awp_drawnG [0, 1, 4, 5, 9, 17] hX mixed ?_; (simp [go_sem]; try (refine ⟨by kernel_rfl, ?_⟩))) | (refine awp_ret ?_; (simp [go_sem]; try (refine ⟨by kernel_rfl, ?_⟩))) | (refine awp_skip ?_; (simp [go_sem]; try (refine ⟨by kernel_rfl, ?_⟩))) | (refine awp_exit ?_; (simp [go_sem]; try (refine ⟨by kernel_rfl, ?_⟩)))))
      have : k = L.length := by omega
      subst this
      rw [List.take_length] at hn
      simp [idx_none hn]

set_option maxHeartbeats 400000 in
theorem members_m (L : List Int) (hl : L.length ≤ 9223372036854775807) : Means true Try.prog 15 [il L] (bb (okM L)) := by
  refine means_fn true 40 [.tmp 2] Try.func15 rfl rfl rfl (by simp) (by decide) rfl fun X hX => ?_
  (repeat (first | refine awp_seq ?_ | refine awp_block ?_ | (refine awp_runG [0, 2, 3, 7, 31] hX ?_; (simp [go_sem]; try (refine ⟨by kernel_rfl, ?_⟩))) | (refine awp_drawnG [0, 2, 3, 7, 31] hX mixed ?_; (simp [go_sem]; try (refine ⟨by kernel_rfl, ?_⟩))) | (refine awp_ret ?_; (simp [go_sem]; try (refine ⟨by kernel_rfl, ?_⟩))) | (refine awp_skip ?_; (simp [go_sem]; try (refine ⟨by kernel_rfl, ?_⟩))) | (refine awp_exit ?_; (simp [go_sem]; try (refine ⟨by kernel_rfl, ?_⟩)))))
  refine awp_loop (fun k : Nat => ⟨mkE [(0, il L), (2, bb false), (3, ii k)], []⟩) (fun k => k ≤ L.length ∧ (L.take k).all inK = true ∧ (L.take k).Nodup) (fun k => L.length - k) 0 ?_ ?_ ?_
  · refine sub_of _ [] (by simp [go_sem]) ?_
    simp [go_sem]
  · simp
  · rintro k ⟨hk, hn, hd⟩
    (repeat (first | refine awp_seq ?_ | refine awp_block ?_ | (refine awp_runG [0, 2, 3, 7, 31] hX ?_; (simp [go_sem]; try (refine ⟨by kernel_rfl, ?_⟩))) | (refine awp_drawnG [0, 2, 3, 7, 31] hX mixed ?_; (simp [go_sem]; try (refine ⟨by kernel_rfl, ?_⟩))) | (refine awp_ret ?_; (simp [go_sem]; try (refine ⟨by kernel_rfl, ?_⟩))) | (refine awp_skip ?_; (simp [go_sem]; try (refine ⟨by kernel_rfl, ?_⟩))) | (refine awp_exit ?_; (simp [go_sem]; try (refine ⟨by kernel_rfl, ?_⟩)))))
    refine awp_cond (b := decide (k < L.length)) (by simp [go_sem]) (fun hb => ?_) (fun hb => ?_)
    · simp at hb
      (repeat (first | refine awp_seq ?_ | refine awp_block ?_ | (refine awp_runG [0, 2, 3, 7, 31] hX ?_; (simp [go_sem, hb]; try (refine ⟨by kernel_rfl, ?_⟩))) | (refine awp_drawnG [0, 2, 3, 7, 31] hX mixed ?_; (simp [go_sem, hb]; try (refine ⟨by kernel_rfl, ?_⟩))) | (refine awp_ret ?_; (simp [go_sem, hb]; try (refine ⟨by kernel_rfl, ?_⟩))) | (refine awp_skip ?_; (simp [go_sem, hb]; try (refine ⟨by kernel_rfl, ?_⟩))) | (refine awp_exit ?_; (simp [go_sem, hb]; try (refine ⟨by kernel_rfl, ?_⟩)))))
      first | refine callG_intro (fun hg => at_m L hl L[k]) rfl (by simp [go_sem]) rfl ?_ | refine callGT_intro (fun hg => at_m L hl L[k]) rfl (by simp [go_sem]) rfl ?_
      try (simp [go_sem]; try (refine ⟨by kernel_rfl, ?_⟩))
      refine awp_cond (b := !inK L[k] || !decide (idx L L[k] = k)) (by simp [go_sem, inK]) (fun hc => ?_) (fun hc => ?_)
      · (repeat (first | refine awp_seq ?_ | refine awp_block ?_ | (refine awp_runG [0, 2, 3, 7, 31] hX ?_; (simp [go_sem]; try (refine ⟨by kernel_rfl, ?_⟩))) | (refine awp_drawnG [0, 2, 3, 7, 31] hX mixed ?_; (simp [go_sem]; try (refine ⟨by kernel_rfl, ?_⟩))) | (refine awp_ret ?_; (simp [go_sem]; try (refine ⟨by kernel_rfl, ?_⟩))) | (refine awp_skip ?_; (simp [go_sem]; try (refine ⟨by kernel_rfl, ?_⟩))) | (refine awp_exit ?_; (simp [go_sem]; try (refine ⟨by kernel_rfl, ?_⟩)))))
        simp at hc
        rcases hc with hc | hc
        · simp [okM_range hb hc]
        · have : L[k] ∈ L.take k := by
            refine Classical.byContradiction fun h => hc (idx_at hb h)
          simp [okM_dup hb this]
      · simp at hc
        (repeat (first | refine awp_seq ?_ | refine awp_block ?_ | (refine awp_runG [0, 2, 3, 7, 31] hX ?_; (simp [go_sem]; (try simp (disch := omega) only [w64, td, tm]); try (refine ⟨by kernel_rfl, ?_⟩))) | (refine awp_drawnG [0, 2, 3, 7, 31] hX mixed ?_; (simp [go_sem]; (try simp (disch := omega) only [w64, td, tm]); try (refine ⟨by kernel_rfl, ?_⟩))) | (refine awp_ret ?_; (simp [go_sem]; (try simp (disch := omega) only [w64, td, tm]); try (refine ⟨by kernel_rfl, ?_⟩))) | (refine awp_skip ?_; (simp [go_sem]; (try simp (disch := omega) only [w64, td, tm]); try (refine ⟨by kernel_rfl, ?_⟩))) | (refine awp_exit ?_; (simp [go_sem]; (try simp (disch := omega) only [w64, td, tm]); try (refine ⟨by kernel_rfl, ?_⟩)))))
        have hm : L[k] ∉ L.take k := idx_at' hb hc.2
        refine ⟨k + 1, ⟨by omega, by simpa using all_take_succ hb hn hc.1, nodup_take_succ hb hd hm⟩, by omega, ?_⟩
        refine sub_of _ [] (by simp [go_sem]) ?_
        simp [go_sem]
    · simp at hb
      (repeat (first | refine awp_seq ?_ | refine awp_block ?_ | (refine awp_runG [0, 2, 3, 7, 31] hX ?_; (simp [go_sem]; try (refine ⟨by kernel_rfl, ?_⟩))) | (refine awp_drawnG [0, 2, 3, 7, 31] hX mixed ?_; (simp [go_sem]; try (refine ⟨by kernel_rfl, ?_⟩))) | (refine awp_ret ?_; (simp [go_sem]; try (refine ⟨by kernel_rfl, ?_⟩))) | (refine awp_skip ?_; (simp [go_sem]; try (refine ⟨by kernel_rfl, ?_⟩))) | (refine awp_exit ?_; (simp [go_sem]; try (refine ⟨by kernel_rfl, ?_⟩)))))
      have : k = L.length := by omega
      subst this
      rw [List.take_length] at hn hd
      simp [okM, hn, hd]

set_option maxHeartbeats 400000 in
theorem valid_m (L : List Int) (hl : L.length ≤ 9223372036854775807) : Means true Try.prog 19 [il L] (bb (okM L)) := by
  refine means_fn true 34 [.tmp 2] Try.func19 rfl rfl rfl (by simp) (by decide) rfl fun X hX => ?_
  (repeat (first | refine awp_seq ?_ | refine awp_block ?_ | (refine awp_runG [0, 2, 3, 4, 12, 13, 14, 15, 16, 32] hX ?_; (simp [go_sem]; try (refine ⟨by kernel_rfl, ?_⟩))) | (refine awp_drawnG [0, 2, 3, 4, 12, 13, 14, 15, 16, 32] hX mixed ?_; (simp [go_sem]; try (refine ⟨by kernel_rfl, ?_⟩))) | (refine awp_ret ?_; (simp [go_sem]; try (refine ⟨by kernel_rfl, ?_⟩))) | (refine awp_skip ?_; (simp [go_sem]; try (refine ⟨by kernel_rfl, ?_⟩))) | (refine awp_exit ?_; (simp [go_sem]; try (refine ⟨by kernel_rfl, ?_⟩)))))
  refine awp_cond (b := decide (L.length = 0) || decide (60 < (L.length : Int))) (by simp [go_sem]) (fun hb => ?_) (fun hb => ?_)
  · (repeat (first | refine awp_seq ?_ | refine awp_block ?_ | (refine awp_runG [0, 2, 3, 4, 12, 13, 14, 15, 16, 32] hX ?_; (simp [go_sem]; try (refine ⟨by kernel_rfl, ?_⟩))) | (refine awp_drawnG [0, 2, 3, 4, 12, 13, 14, 15, 16, 32] hX mixed ?_; (simp [go_sem]; try (refine ⟨by kernel_rfl, ?_⟩))) | (refine awp_ret ?_; (simp [go_sem]; try (refine ⟨by kernel_rfl, ?_⟩))) | (refine awp_skip ?_; (simp [go_sem]; try (refine ⟨by kernel_rfl, ?_⟩))) | (refine awp_exit ?_; (simp [go_sem]; try (refine ⟨by kernel_rfl, ?_⟩)))))
    simp at hb
    rcases hb with rfl | hb
    · rfl
    · simp [okM]; omega
  · simp at hb
    (repeat (first | refine awp_seq ?_ | refine awp_block ?_ | (refine awp_runG [0, 2, 3, 4, 12, 13, 14, 15, 16, 32] hX ?_; (simp [go_sem]; try (refine ⟨by kernel_rfl, ?_⟩))) | (refine awp_drawnG [0, 2, 3, 4, 12, 13, 14, 15, 16, 32] hX mixed ?_; (simp [go_sem]; try (refine ⟨by kernel_rfl, ?_⟩))) | (refine awp_ret ?_; (simp [go_sem]; try (refine ⟨by kernel_rfl, ?_⟩))) | (refine awp_skip ?_; (simp [go_sem]; try (refine ⟨by kernel_rfl, ?_⟩))) | (refine awp_exit ?_; (simp [go_sem]; try (refine ⟨by kernel_rfl, ?_⟩)))))
    refine awp_loop (fun k : Nat => ⟨mkE [(0, il L), (2, bb false), (13, il L), (14, ii L.length), (15, ii k)], []⟩) (fun k => k ≤ L.length ∧ (L.take k).all inK = true ∧ (L.take k).Nodup) (fun k => L.length - k) 0 ?_ ?_ ?_
    · refine sub_of _ [] (by simp [go_sem]) ?_
      simp [go_sem]
    · simp
    · rintro k ⟨hk, hn, hd⟩
      (repeat (first | refine awp_seq ?_ | refine awp_block ?_ | (refine awp_runG [0, 2, 3, 4, 12, 13, 14, 15, 16, 32] hX ?_; (simp [go_sem]; try (refine ⟨by kernel_rfl, ?_⟩))) | (refine awp_drawnG [0, 2, 3, 4, 12, 13, 14, 15, 16, 32] hX mixed ?_; (simp [go_sem]; try (refine ⟨by kernel_rfl, ?_⟩))) | (refine awp_ret ?_; (simp [go_sem]; try (refine ⟨by kernel_rfl, ?_⟩))) | (refine awp_skip ?_; (simp [go_sem]; try (refine ⟨by kernel_rfl, ?_⟩))) | (refine awp_exit ?_; (simp [go_sem]; try (refine ⟨by kernel_rfl, ?_⟩)))))
      refine awp_cond (b := decide (k < L.length)) (by simp [go_sem]) (fun hb' => ?_) (fun hb' => ?_)
      · simp at hb'
        (repeat (first | refine awp_seq ?_ | refine awp_block ?_ | (refine awp_runG [0, 2, 3, 4, 12, 13, 14, 15, 16, 32] hX ?_; (simp [go_sem, hb']; try (refine ⟨by kernel_rfl, ?_⟩))) | (refine awp_drawnG [0, 2, 3, 4, 12, 13, 14, 15, 16, 32] hX mixed ?_; (simp [go_sem, hb']; try (refine ⟨by kernel_rfl, ?_⟩))) | (refine awp_ret ?_; (simp [go_sem, hb']; try (refine ⟨by kernel_rfl, ?_⟩))) | (refine awp_skip ?_; (simp [go_sem, hb']; try (refine ⟨by kernel_rfl, ?_⟩))) | (refine awp_exit ?_; (simp [go_sem, hb']; try (refine ⟨by kernel_rfl, ?_⟩)))))
        refine ⟨fun _ _ => by omega, ?_⟩
        first | refine callG_intro (fun hg => containsT_m L k hl L[k]) rfl (by simp [go_sem]) rfl ?_ | refine callGT_intro (fun hg => containsT_m L k hl L[k]) rfl (by simp [go_sem]) rfl ?_
        try (simp [go_sem]; try (refine ⟨by kernel_rfl, ?_⟩))
        refine awp_cond (b := !inK L[k] || decide (L[k] ∈ L.take k)) (by simp [go_sem, inK]) (fun hc => ?_) (fun hc => ?_)
        · (repeat (first | refine awp_seq ?_ | refine awp_block ?_ | (refine awp_runG [0, 2, 3, 4, 12, 13, 14, 15, 16, 32] hX ?_; (simp [go_sem]; try (refine ⟨by kernel_rfl, ?_⟩))) | (refine awp_drawnG [0, 2, 3, 4, 12, 13, 14, 15, 16, 32] hX mixed ?_; (simp [go_sem]; try (refine ⟨by kernel_rfl, ?_⟩))) | (refine awp_ret ?_; (simp [go_sem]; try (refine ⟨by kernel_rfl, ?_⟩))) | (refine awp_skip ?_; (simp [go_sem]; try (refine ⟨by kernel_rfl, ?_⟩))) | (refine awp_exit ?_; (simp [go_sem]; try (refine ⟨by kernel_rfl, ?_⟩)))))
          simp at hc
          rcases hc with hc | hc
          · simp [okM_range hb' hc]
          · simp [okM_dup hb' hc]
        · simp at hc
          (repeat (first | refine awp_seq ?_ | refine awp_block ?_ | (refine awp_runG [0, 2, 3, 4, 12, 13, 14, 15, 16, 32] hX ?_; (simp [go_sem]; (try simp (disch := omega) only [w64, td, tm]); try (refine ⟨by kernel_rfl, ?_⟩))) | (refine awp_drawnG [0, 2, 3, 4, 12, 13, 14, 15, 16, 32] hX mixed ?_; (simp [go_sem]; (try simp (disch := omega) only [w64, td, tm]); try (refine ⟨by kernel_rfl, ?_⟩))) | (refine awp_ret ?_; (simp [go_sem]; (try simp (disch := omega) only [w64, td, tm]); try (refine ⟨by kernel_rfl, ?_⟩))) | (refine awp_skip ?_; (simp [go_sem]; (try simp (disch := omega) only [w64, td, tm]); try (refine ⟨by kernel_rfl, ?_⟩))) | (refine awp_exit ?_; (simp [go_sem]; (try simp (disch := omega) only [w64, td, tm]); try (refine ⟨by kernel_rfl, ?_⟩)))))
          refine ⟨k + 1, ⟨by omega, by simpa using all_take_succ hb' hn hc.1, nodup_take_succ hb' hd hc.2⟩, by omega, ?_⟩
          refine sub_of _ [] (by simp [go_sem]) ?_
          simp [go_sem]
      · simp at hb'
        (repeat (first | refine awp_seq ?_ | refine awp_block ?_ | (refine awp_runG [0, 2, 3, 4, 12, 13, 14, 15, 16, 32] hX ?_; (simp [go_sem]; try (refine ⟨by kernel_rfl, ?_⟩))) | (refine awp_drawnG [0, 2, 3, 4, 12, 13, 14, 15, 16, 32] hX mixed ?_; (simp [go_sem]; try (refine ⟨by kernel_rfl, ?_⟩))) | (refine awp_ret ?_; (simp [go_sem]; try (refine ⟨by kernel_rfl, ?_⟩))) | (refine awp_skip ?_; (simp [go_sem]; try (refine ⟨by kernel_rfl, ?_⟩))) | (refine awp_exit ?_; (simp [go_sem]; try (refine ⟨by kernel_rfl, ?_⟩)))))
        have : k = L.length := by omega
        subst this
        rw [List.take_length] at hn hd
        simp [okM, hn, hd]
        have := List.length_pos_iff.2 hb.1
        omega

set_option maxHeartbeats 400000 in
theorem vvalid_m (L : List Int) (hl : L.length ≤ 9223372036854775807) : Means true Try.prog 34 [il L] (bb (okM L)) := by
  refine means_fn true 34 [.tmp 2] Try.func34 rfl rfl rfl (by simp) (by decide) rfl fun X hX => ?_
  (repeat (first | refine awp_seq ?_ | refine awp_block ?_ | (refine awp_runG [0, 2, 3, 4, 12, 13, 14, 15, 16, 32] hX ?_; (simp [go_sem]; try (refine ⟨by kernel_rfl, ?_⟩))) | (refine awp_drawnG [0, 2, 3, 4, 12, 13, 14, 15, 16, 32] hX mixed ?_; (simp [go_sem]; try (refine ⟨by kernel_rfl, ?_⟩))) | (refine awp_ret ?_; (simp [go_sem]; try (refine ⟨by kernel_rfl, ?_⟩))) | (refine awp_skip ?_; (simp [go_sem]; try (refine ⟨by kernel_rfl, ?_⟩))) | (refine awp_exit ?_; (simp [go_sem]; try (refine ⟨by kernel_rfl, ?_⟩)))))
  refine awp_cond (b := decide (L.length = 0) || decide (60 < (L.length : Int))) (by simp [go_sem]) (fun hb => ?_) (fun hb => ?_)
  · (repeat (first | refine awp_seq ?_ | refine awp_block ?_ | (refine awp_runG [0, 2, 3, 4, 12, 13, 14, 15, 16, 32] hX ?_; (simp [go_sem]; try (refine ⟨by kernel_rfl, ?_⟩))) | (refine awp_drawnG [0, 2, 3, 4, 12, 13, 14, 15, 16, 32] hX mixed ?_; (simp [go_sem]; try (refine ⟨by kernel_rfl, ?_⟩))) | (refine awp_ret ?_; (simp [go_sem]; try (refine ⟨by kernel_rfl, ?_⟩))) | (refine awp_skip ?_; (simp [go_sem]; try (refine ⟨by kernel_rfl, ?_⟩))) | (refine awp_exit ?_; (simp [go_sem]; try (refine ⟨by kernel_rfl, ?_⟩)))))
    simp at hb
    rcases hb with rfl | hb
    · rfl
    · simp [okM]; omega
  · simp at hb
    (repeat (first | refine awp_seq ?_ | refine awp_block ?_ | (refine awp_runG [0, 2, 3, 4, 12, 13, 14, 15, 16, 32] hX ?_; (simp [go_sem]; try (refine ⟨by kernel_rfl, ?_⟩))) | (refine awp_drawnG [0, 2, 3, 4, 12, 13, 14, 15, 16, 32] hX mixed ?_; (simp [go_sem]; try (refine ⟨by kernel_rfl, ?_⟩))) | (refine awp_ret ?_; (simp [go_sem]; try (refine ⟨by kernel_rfl, ?_⟩))) | (refine awp_skip ?_; (simp [go_sem]; try (refine ⟨by kernel_rfl, ?_⟩))) | (refine awp_exit ?_; (simp [go_sem]; try (refine ⟨by kernel_rfl, ?_⟩)))))
    refine awp_loop (fun k : Nat => ⟨mkE [(0, il L), (2, bb false), (13, il L), (14, ii L.length), (15, ii k)], []⟩) (fun k => k ≤ L.length ∧ (L.take k).all inK = true ∧ (L.take k).Nodup) (fun k => L.length - k) 0 ?_ ?_ ?_
    · refine sub_of _ [] (by simp [go_sem]) ?_
      simp [go_sem]
    · simp
    · rintro k ⟨hk, hn, hd⟩
      (repeat (first | refine awp_seq ?_ | refine awp_block ?_ | (refine awp_runG [0, 2, 3, 4, 12, 13, 14, 15, 16, 32] hX ?_; (simp [go_sem]; try (refine ⟨by kernel_rfl, ?_⟩))) | (refine awp_drawnG [0, 2, 3, 4, 12, 13, 14, 15, 16, 32] hX mixed ?_; (simp [go_sem]; try (refine ⟨by kernel_rfl, ?_⟩))) | (refine awp_ret ?_; (simp [go_sem]; try (refine ⟨by kernel_rfl, ?_⟩))) | (refine awp_skip ?_; (simp [go_sem]; try (refine ⟨by kernel_rfl, ?_⟩))) | (refine awp_exit ?_; (simp [go_sem]; try (refine ⟨by kernel_rfl, ?_⟩)))))
      refine awp_cond (b := decide (k < L.length)) (by simp [go_sem]) (fun hb' => ?_) (fun hb' => ?_)
      · simp at hb'
        (repeat (first | refine awp_seq ?_ | refine awp_block ?_ | (refine awp_runG [0, 2, 3, 4, 12, 13, 14, 15, 16, 32] hX ?_; (simp [go_sem, hb']; try (refine ⟨by kernel_rfl, ?_⟩))) | (refine awp_drawnG [0, 2, 3, 4, 12, 13, 14, 15, 16, 32] hX mixed ?_; (simp [go_sem, hb']; try (refine ⟨by kernel_rfl, ?_⟩))) | (refine awp_ret ?_; (simp [go_sem, hb']; try (refine ⟨by kernel_rfl, ?_⟩))) | (refine awp_skip ?_; (simp [go_sem, hb']; try (refine ⟨by kernel_rfl, ?_⟩))) | (refine awp_exit ?_; (simp [go_sem, hb']; try (refine ⟨by kernel_rfl, ?_⟩)))))
        refine ⟨fun _ _ => by omega, ?_⟩
        first | refine callG_intro (fun hg => containsT_m L k hl L[k]) rfl (by simp [go_sem]) rfl ?_ | refine callGT_intro (fun hg => containsT_m L k hl L[k]) rfl (by simp [go_sem]) rfl ?_
        try (simp [go_sem]; try (refine ⟨by kernel_rfl, ?_⟩))
        refine awp_cond (b := !inK L[k] || decide (L[k] ∈ L.take k)) (by simp [go_sem, inK]) (fun hc => ?_) (fun hc => ?_)
        · (repeat (first | refine awp_seq ?_ | refine awp_block ?_ | (refine awp_runG [0, 2, 3, 4, 12, 13, 14, 15, 16, 32] hX ?_; (simp [go_sem]; try (refine ⟨by kernel_rfl, ?_⟩))) | (refine awp_drawnG [0, 2, 3, 4, 12, 13, 14, 15, 16, 32] hX mixed ?_; (simp [go_sem]; try (refine ⟨by kernel_rfl, ?_⟩))) | (refine awp_ret ?_; (simp [go_sem]; try (refine ⟨by kernel_rfl, ?_⟩))) | (refine awp_skip ?_; (simp [go_sem]; try (refine ⟨by kernel_rfl, ?_⟩))) | (refine awp_exit ?_; (simp [go_sem]; try (refine ⟨by kernel_rfl, ?_⟩)))))
          simp at hc
          rcases hc with hc | hc
          · simp [okM_range hb' hc]
          · simp [okM_dup hb' hc]
        · simp at hc
          (repeat (first | refine awp_seq ?_ | refine awp_block ?_ | (refine awp_runG [0, 2, 3, 4, 12, 13, 14, 15, 16, 32] hX ?_; (simp [go_sem]; (try simp (disch := omega) only [w64, td, tm]); try (refine ⟨by kernel_rfl, ?_⟩))) | (refine awp_drawnG [0, 2, 3, 4, 12, 13, 14, 15, 16, 32] hX mixed ?_; (simp [go_sem]; (try simp (disch := omega) only [w64, td, tm]); try (refine ⟨by kernel_rfl, ?_⟩))) | (refine awp_ret ?_; (simp [go_sem]; (try simp (disch := omega) only [w64, td, tm]); try (refine ⟨by kernel_rfl, ?_⟩))) | (refine awp_skip ?_; (simp [go_sem]; (try simp (disch := omega) only [w64, td, tm]); try (refine ⟨by kernel_rfl, ?_⟩))) | (refine awp_exit ?_; (simp [go_sem]; (try simp (disch := omega) only [w64, td, tm]); try (refine ⟨by kernel_rfl, ?_⟩)))))
          refine ⟨k + 1, ⟨by omega, by simpa using all_take_succ hb' hn hc.1, nodup_take_succ hb' hd hc.2⟩, by omega, ?_⟩
          refine sub_of _ [] (by simp [go_sem]) ?_
          simp [go_sem]
      · simp at hb'
        (repeat (first | refine awp_seq ?_ | refine awp_block ?_ | (refine awp_runG [0, 2, 3, 4, 12, 13, 14, 15, 16, 32] hX ?_; (simp [go_sem]; try (refine ⟨by kernel_rfl, ?_⟩))) | (refine awp_drawnG [0, 2, 3, 4, 12, 13, 14, 15, 16, 32] hX mixed ?_; (simp [go_sem]; try (refine ⟨by kernel_rfl, ?_⟩))) | (refine awp_ret ?_; (simp [go_sem]; try (refine ⟨by kernel_rfl, ?_⟩))) | (refine awp_skip ?_; (simp [go_sem]; try (refine ⟨by kernel_rfl, ?_⟩))) | (refine awp_exit ?_; (simp [go_sem]; try (refine ⟨by kernel_rfl, ?_⟩)))))
        have : k = L.length := by omega
        subst this
        rw [List.take_length] at hn hd
        simp [okM, hn, hd]
        have := List.length_pos_iff.2 hb.1
        omega

@[go_sem] theorem keyEq_ii (a b : Int) : keyEq Try.prog 3 (ii a) (ii b) = some (decide (a = b)) := by
  simp only [keyEq, tk3, eqV, if_true]
  rw [beqI]
theorem look_es (w : Int) (l : List V) : findA Try.prog 3 (ii w) (l.map fun v => (ii v.who, bb true)) = some (if w ∈ l.map V.who then some (bb true) else none) := by
  induction l with
  | nil => simp [findA]
  | cons v l ih =>
    simp only [List.map_cons, findA, keyEq_ii]
    rw [ih]
    by_cases h : w = v.who
    · simp [h]
    · simp [h]
@[go_sem] theorem lookA_es (w : Int) (l : List V) : lookA Try.prog 3 4 (ii w) (l.map fun v => (ii v.who, bb true)) false = some (bb (spoke w l)) := by
  unfold lookA spoke
  rw [look_es, tk4]
  by_cases h : w ∈ l.map V.who <;> simp only [h, if_true, if_false, foundA] <;> simp
theorem updA_es (w : Int) : ∀ (l : List V), spoke w l = false → updA Try.prog 3 (ii w) (bb true) (l.map fun v => (ii v.who, bb true)) = some ((l.map fun v => (ii v.who, bb true)) ++ [(ii w, bb true)])
  | [], _ => rfl
  | v :: l, h => by
    simp only [spoke, List.map_cons, List.mem_cons, not_or, decide_eq_false_iff_not] at h
    have h1 : ¬ w = v.who := h.1
    have := updA_es w l (by simpa [spoke] using h.2)
    simp only [List.map_cons, updA, keyEq_ii, h1, decide_false, this, Option.map_some, List.cons_append]

set_option maxHeartbeats 400000 in
theorem counted_m (L : List Int) (hl : L.length ≤ 9223372036854775807) (vs : List V) (hv : vs.length ≤ 100000) (u : Int) : Means true Try.prog 27 [il L, .sl (vs.map vo), ii u] (.sl ((counted L vs u).map vo)) := by
  refine means_fn true 47 [.tmp 6] Try.func27 rfl rfl rfl (by simp) (by decide) rfl fun X hX => ?_
  (repeat (first | refine awp_seq ?_ | refine awp_block ?_ | (refine awp_runG [0, 1, 2, 6, 7, 8, 10, 13, 15, 16, 17, 18, 37] hX ?_; (simp [go_sem]; try (refine ⟨by kernel_rfl, ?_⟩))) | (refine awp_drawnG [0, 1, 2, 6, 7, 8, 10, 13, 15, 16, 17, 18, 37] hX mixed ?_; (simp [go_sem]; try (refine ⟨by kernel_rfl, ?_⟩))) | (refine awp_ret ?_; (simp [go_sem]; try (refine ⟨by kernel_rfl, ?_⟩))) | (refine awp_skip ?_; (simp [go_sem]; try (refine ⟨by kernel_rfl, ?_⟩))) | (refine awp_exit ?_; (simp [go_sem]; try (refine ⟨by kernel_rfl, ?_⟩)))))
  first | refine callK_intro (vvalid_m L hl) rfl (by simp [go_sem]) rfl ?_ | refine callT_intro (vvalid_m L hl) rfl (by simp [go_sem]) rfl ?_
  try (simp [go_sem]; try (refine ⟨by kernel_rfl, ?_⟩))
  (repeat (first | refine awp_seq ?_ | refine awp_block ?_ | (refine awp_runG [0, 1, 2, 6, 7, 8, 10, 13, 15, 16, 17, 18, 37] hX ?_; (simp [go_sem]; try (refine ⟨by kernel_rfl, ?_⟩))) | (refine awp_drawnG [0, 1, 2, 6, 7, 8, 10, 13, 15, 16, 17, 18, 37] hX mixed ?_; (simp [go_sem]; try (refine ⟨by kernel_rfl, ?_⟩))) | (refine awp_ret ?_; (simp [go_sem]; try (refine ⟨by kernel_rfl, ?_⟩))) | (refine awp_skip ?_; (simp [go_sem]; try (refine ⟨by kernel_rfl, ?_⟩))) | (refine awp_exit ?_; (simp [go_sem]; try (refine ⟨by kernel_rfl, ?_⟩)))))
  refine awp_cond (b := !okM L) (by simp [go_sem]) (fun hb => ?_) (fun hb => ?_)
  · simp at hb
    (repeat (first | refine awp_seq ?_ | refine awp_block ?_ | (refine awp_runG [0, 1, 2, 6, 7, 8, 10, 13, 15, 16, 17, 18, 37] hX ?_; (simp [go_sem]; try (refine ⟨by kernel_rfl, ?_⟩))) | (refine awp_drawnG [0, 1, 2, 6, 7, 8, 10, 13, 15, 16, 17, 18, 37] hX mixed ?_; (simp [go_sem]; try (refine ⟨by kernel_rfl, ?_⟩))) | (refine awp_ret ?_; (simp [go_sem]; try (refine ⟨by kernel_rfl, ?_⟩))) | (refine awp_skip ?_; (simp [go_sem]; try (refine ⟨by kernel_rfl, ?_⟩))) | (refine awp_exit ?_; (simp [go_sem]; try (refine ⟨by kernel_rfl, ?_⟩)))))
    simp [counted, hb]
  · simp at hb
    (repeat (first | refine awp_seq ?_ | refine awp_block ?_ | (refine awp_runG [0, 1, 2, 6, 7, 8, 10, 13, 15, 16, 17, 18, 37] hX ?_; (simp [go_sem]; try (refine ⟨by kernel_rfl, ?_⟩))) | (refine awp_drawnG [0, 1, 2, 6, 7, 8, 10, 13, 15, 16, 17, 18, 37] hX mixed ?_; (simp [go_sem]; try (refine ⟨by kernel_rfl, ?_⟩))) | (refine awp_ret ?_; (simp [go_sem]; try (refine ⟨by kernel_rfl, ?_⟩))) | (refine awp_skip ?_; (simp [go_sem]; try (refine ⟨by kernel_rfl, ?_⟩))) | (refine awp_exit ?_; (simp [go_sem]; try (refine ⟨by kernel_rfl, ?_⟩)))))
    refine awp_loop (fun k : Nat => ⟨mkE [(0, il L), (1, .sl (vs.map vo)), (2, ii u), (6, .nil), (7, .ow 0), (8, .ow 1), (15, .sl (vs.map vo)), (16, ii vs.length), (17, ii k)],
      [.map ⟨3, 4, (cnt L u (vs.take k)).map fun v => (ii v.who, bb true)⟩, .row ⟨38, 4, (cnt L u (vs.take k)).map vo⟩]⟩) (fun k => k ≤ vs.length) (fun k => vs.length - k) 0 ?_ ?_ ?_
    · refine sub_of _ [.oldM 0 ⟨3, 4, []⟩, .birth 38 4] (by simp [go_sem]) ?_
      simp [go_sem, cnt]
    · simp
    · rintro k hk
      have hcl := cnt_len L u (vs.take k)
      rw [List.length_take] at hcl
      (repeat (first | refine awp_seq ?_ | refine awp_block ?_ | (refine awp_runG [0, 1, 2, 6, 7, 8, 10, 13, 15, 16, 17, 18, 37] hX ?_; (simp [go_sem]; try (refine ⟨by kernel_rfl, ?_⟩))) | (refine awp_drawnG [0, 1, 2, 6, 7, 8, 10, 13, 15, 16, 17, 18, 37] hX mixed ?_; (simp [go_sem]; try (refine ⟨by kernel_rfl, ?_⟩))) | (refine awp_ret ?_; (simp [go_sem]; try (refine ⟨by kernel_rfl, ?_⟩))) | (refine awp_skip ?_; (simp [go_sem]; try (refine ⟨by kernel_rfl, ?_⟩))) | (refine awp_exit ?_; (simp [go_sem]; try (refine ⟨by kernel_rfl, ?_⟩)))))
      refine awp_cond (b := decide (k < vs.length)) (by simp [go_sem]) (fun hc => ?_) (fun hc => ?_)
      · simp at hc
        (repeat (first | refine awp_seq ?_ | refine awp_block ?_ | (refine awp_runG [0, 1, 2, 6, 7, 8, 10, 13, 15, 16, 17, 18, 37] hX ?_; (simp [go_sem, hc]; try (refine ⟨by kernel_rfl, ?_⟩))) | (refine awp_drawnG [0, 1, 2, 6, 7, 8, 10, 13, 15, 16, 17, 18, 37] hX mixed ?_; (simp [go_sem, hc]; try (refine ⟨by kernel_rfl, ?_⟩))) | (refine awp_ret ?_; (simp [go_sem, hc]; try (refine ⟨by kernel_rfl, ?_⟩))) | (refine awp_skip ?_; (simp [go_sem, hc]; try (refine ⟨by kernel_rfl, ?_⟩))) | (refine awp_exit ?_; (simp [go_sem, hc]; try (refine ⟨by kernel_rfl, ?_⟩)))))
        first | refine callG_intro (fun hg => contains_m L hl vs[k].who) rfl (by simp [go_sem]) rfl ?_ | refine callGT_intro (fun hg => contains_m L hl vs[k].who) rfl (by simp [go_sem]) rfl ?_
        try (simp [go_sem]; try (refine ⟨by kernel_rfl, ?_⟩))
        (repeat (first | refine awp_seq ?_ | refine awp_block ?_ | (refine awp_runG [0, 1, 2, 6, 7, 8, 10, 13, 15, 16, 17, 18, 37] hX ?_; (simp [go_sem]; try (refine ⟨by kernel_rfl, ?_⟩))) | (refine awp_drawnG [0, 1, 2, 6, 7, 8, 10, 13, 15, 16, 17, 18, 37] hX mixed ?_; (simp [go_sem]; try (refine ⟨by kernel_rfl, ?_⟩))) | (refine awp_ret ?_; (simp [go_sem]; try (refine ⟨by kernel_rfl, ?_⟩))) | (refine awp_skip ?_; (simp [go_sem]; try (refine ⟨by kernel_rfl, ?_⟩))) | (refine awp_exit ?_; (simp [go_sem]; try (refine ⟨by kernel_rfl, ?_⟩)))))
        refine awp_cond (b := skips L u (cnt L u (vs.take k)) vs[k]) (by simp [go_sem, skips]) (fun hd => ?_) (fun hd => ?_)
        · have e : cnt L u (vs.take (k + 1)) = cnt L u (vs.take k) := by simp [cnt_succ hc, cstep, hd]
          (repeat (first | refine awp_seq ?_ | refine awp_block ?_ | (refine awp_runG [0, 1, 2, 6, 7, 8, 10, 13, 15, 16, 17, 18, 37] hX ?_; (simp [go_sem]; (try simp (disch := omega) only [w64, td, tm]); try (refine ⟨by kernel_rfl, ?_⟩))) | (refine awp_drawnG [0, 1, 2, 6, 7, 8, 10, 13, 15, 16, 17, 18, 37] hX mixed ?_; (simp [go_sem]; (try simp (disch := omega) only [w64, td, tm]); try (refine ⟨by kernel_rfl, ?_⟩))) | (refine awp_ret ?_; (simp [go_sem]; (try simp (disch := omega) only [w64, td, tm]); try (refine ⟨by kernel_rfl, ?_⟩))) | (refine awp_skip ?_; (simp [go_sem]; (try simp (disch := omega) only [w64, td, tm]); try (refine ⟨by kernel_rfl, ?_⟩))) | (refine awp_exit ?_; (simp [go_sem]; (try simp (disch := omega) only [w64, td, tm]); try (refine ⟨by kernel_rfl, ?_⟩)))))
          refine ⟨k + 1, by omega, by omega, ?_⟩
          simp only [e]
          refine sub_of _ [.oldM 0 (MOb.mk 3 4 (List.map (fun v : V => (ii v.who, bb true)) (cnt L u (vs.take k)))), .old 1 ⟨38, 4, (cnt L u (vs.take k)).map vo⟩] (by simp [go_sem]) ?_
          simp [go_sem]
        · have hw : spoke vs[k].who (cnt L u (vs.take k)) = false := by simp [skips] at hd; exact hd.1.2
          have hu := updA_es _ _ hw
          have e : cnt L u (vs.take (k + 1)) = cnt L u (vs.take k) ++ [vs[k]] := by simp [cnt_succ hc, cstep, hd]
          (repeat (first | refine awp_seq ?_ | refine awp_block ?_ | (refine awp_runG [0, 1, 2, 6, 7, 8, 10, 13, 15, 16, 17, 18, 37] hX ?_; (simp [go_sem, hu]; (try simp (disch := omega) only [w64, td, tm]); try (refine ⟨by kernel_rfl, ?_⟩))) | (refine awp_drawnG [0, 1, 2, 6, 7, 8, 10, 13, 15, 16, 17, 18, 37] hX mixed ?_; (simp [go_sem, hu]; (try simp (disch := omega) only [w64, td, tm]); try (refine ⟨by kernel_rfl, ?_⟩))) | (refine awp_ret ?_; (simp [go_sem, hu]; (try simp (disch := omega) only [w64, td, tm]); try (refine ⟨by kernel_rfl, ?_⟩))) | (refine awp_skip ?_; (simp [go_sem, hu]; (try simp (disch := omega) only [w64, td, tm]); try (refine ⟨by kernel_rfl, ?_⟩))) | (refine awp_exit ?_; (simp [go_sem, hu]; (try simp (disch := omega) only [w64, td, tm]); try (refine ⟨by kernel_rfl, ?_⟩)))))
          refine ⟨⟨by omega, by unfold maxLen; omega⟩, ?_⟩
          (repeat (first | refine awp_seq ?_ | refine awp_block ?_ | (refine awp_runG [0, 1, 2, 6, 7, 8, 10, 13, 15, 16, 17, 18, 37] hX ?_; (simp [go_sem]; (try simp (disch := omega) only [w64, td, tm]); try (refine ⟨by kernel_rfl, ?_⟩))) | (refine awp_drawnG [0, 1, 2, 6, 7, 8, 10, 13, 15, 16, 17, 18, 37] hX mixed ?_; (simp [go_sem]; (try simp (disch := omega) only [w64, td, tm]); try (refine ⟨by kernel_rfl, ?_⟩))) | (refine awp_ret ?_; (simp [go_sem]; (try simp (disch := omega) only [w64, td, tm]); try (refine ⟨by kernel_rfl, ?_⟩))) | (refine awp_skip ?_; (simp [go_sem]; (try simp (disch := omega) only [w64, td, tm]); try (refine ⟨by kernel_rfl, ?_⟩))) | (refine awp_exit ?_; (simp [go_sem]; (try simp (disch := omega) only [w64, td, tm]); try (refine ⟨by kernel_rfl, ?_⟩)))))
          refine ⟨k + 1, by omega, by omega, ?_⟩
          simp only [e, List.map_append, List.map_cons, List.map_nil]
          refine sub_of _ [.oldM 0 ⟨3, 4, ((cnt L u (vs.take k)).map fun v => (ii v.who, bb true)) ++ [(ii vs[k].who, bb true)]⟩, .old 4 ⟨38, 4, (cnt L u (vs.take k)).map vo ++ [vo vs[k]]⟩] (by simp [go_sem]) ?_
          simp [go_sem]
      · simp at hc
        (repeat (first | refine awp_seq ?_ | refine awp_block ?_ | (refine awp_runG [0, 1, 2, 6, 7, 8, 10, 13, 15, 16, 17, 18, 37] hX ?_; (simp [go_sem]; try (refine ⟨by kernel_rfl, ?_⟩))) | (refine awp_drawnG [0, 1, 2, 6, 7, 8, 10, 13, 15, 16, 17, 18, 37] hX mixed ?_; (simp [go_sem]; try (refine ⟨by kernel_rfl, ?_⟩))) | (refine awp_ret ?_; (simp [go_sem]; try (refine ⟨by kernel_rfl, ?_⟩))) | (refine awp_skip ?_; (simp [go_sem]; try (refine ⟨by kernel_rfl, ?_⟩))) | (refine awp_exit ?_; (simp [go_sem]; try (refine ⟨by kernel_rfl, ?_⟩)))))
        rw [List.take_of_length_le (by omega)]
        simp [counted, hb]

end Go.Proofs.Ytflcmfeafiippaa
