/-
  The walks of layer 31: lists of voices.
-/
import Derived.Test.YtgccheogieddnaaVoteA
set_option linter.all false
namespace Go.Proofs.Ytgccheogieddnaa
open Go.RowKit Go.Ab
attribute [local irreducible] AWP Go.Ab.Sub Means CallK CallG

abbrev vo (v : V) : AV := .agg [ii v.mark, ii v.who, bb v.yes, ii v.day]
@[go_sem] theorem beqB (a b : Bool) : (a == b) = decide (a = b) := by cases a <;> cases b <;> rfl
@[go_sem] theorem nth_vo {L : List V} {k : Nat} (h : k < L.length) : nth (L.map vo) k = vo L[k] := nth_map vo h

set_option maxHeartbeats 400000 in
theorem same_m (A B : List V) (hl : A.length ≤ 9223372036854775807) : Means true Try.prog 15 [.sl (A.map vo), .sl (B.map vo)] (bb (decide (A = B))) := by
  refine means_fn true 26 [.tmp 4] Try.func15 rfl rfl rfl (by simp) rfl fun X hX => ?_
  (repeat (first | refine awp_seq ?_ | refine awp_block ?_ | (refine awp_runG [0, 1, 4, 5, 10, 14, 25] hX ?_; simp [go_sem]) | (refine awp_drawnG [0, 1, 4, 5, 10, 14, 25] hX mixed (by kernel_rfl) ?_; simp [go_sem]) | (refine awp_ret ?_; simp [go_sem]) | (refine awp_skip ?_; simp [go_sem]) | (refine awp_exit ?_; simp [go_sem])))
  refine awp_cond (b := !decide ((A.length : Int) = B.length)) (by simp [go_sem]) (fun hb => ?_) (fun hb => ?_)
  · simp at hb
    (repeat (first | refine awp_seq ?_ | refine awp_block ?_ | (refine awp_runG [0, 1, 4, 5, 10, 14, 25] hX ?_; simp [go_sem]) | (refine awp_drawnG [0, 1, 4, 5, 10, 14, 25] hX mixed (by kernel_rfl) ?_; simp [go_sem]) | (refine awp_ret ?_; simp [go_sem]) | (refine awp_skip ?_; simp [go_sem]) | (refine awp_exit ?_; simp [go_sem])))
    have : A ≠ B := by rintro rfl; exact hb rfl
    simp [this]
  · simp at hb
    have hb : A.length = B.length := by omega
    (repeat (first | refine awp_seq ?_ | refine awp_block ?_ | (refine awp_runG [0, 1, 4, 5, 10, 14, 25] hX ?_; simp [go_sem]) | (refine awp_drawnG [0, 1, 4, 5, 10, 14, 25] hX mixed (by kernel_rfl) ?_; simp [go_sem]) | (refine awp_ret ?_; simp [go_sem]) | (refine awp_skip ?_; simp [go_sem]) | (refine awp_exit ?_; simp [go_sem])))
    refine awp_loop (fun k : Nat => ⟨mkE [(0, .sl (A.map vo)), (1, .sl (B.map vo)), (4, bb false), (5, ii k)], []⟩) (fun k => k ≤ A.length ∧ A.take k = B.take k) (fun k => A.length - k) 0 ?_ ?_ ?_
    · refine sub_of _ [] (by simp [go_sem]) ?_
      simp [go_sem]
    · simp
    · rintro k ⟨hk, hn⟩
      (repeat (first | refine awp_seq ?_ | refine awp_block ?_ | (refine awp_runG [0, 1, 4, 5, 10, 14, 25] hX ?_; simp [go_sem]) | (refine awp_drawnG [0, 1, 4, 5, 10, 14, 25] hX mixed (by kernel_rfl) ?_; simp [go_sem]) | (refine awp_ret ?_; simp [go_sem]) | (refine awp_skip ?_; simp [go_sem]) | (refine awp_exit ?_; simp [go_sem])))
      refine awp_cond (b := decide (k < A.length)) (by simp [go_sem]) (fun hc => ?_) (fun hc => ?_)
      · simp at hc
        have hc' : k < B.length := by omega
        (repeat (first | refine awp_seq ?_ | refine awp_block ?_ | (refine awp_runG [0, 1, 4, 5, 10, 14, 25] hX ?_; simp [go_sem, hc, hc']) | (refine awp_drawnG [0, 1, 4, 5, 10, 14, 25] hX mixed (by kernel_rfl) ?_; simp [go_sem, hc, hc']) | (refine awp_ret ?_; simp [go_sem, hc, hc']) | (refine awp_skip ?_; simp [go_sem, hc, hc']) | (refine awp_exit ?_; simp [go_sem, hc, hc'])))
        refine awp_cond (b := !decide (A[k] = B[k])) (by simp [go_sem, V.eq_iff]) (fun hd => ?_) (fun hd => ?_)
        · simp at hd
          (repeat (first | refine awp_seq ?_ | refine awp_block ?_ | (refine awp_runG [0, 1, 4, 5, 10, 14, 25] hX ?_; simp [go_sem]) | (refine awp_drawnG [0, 1, 4, 5, 10, 14, 25] hX mixed (by kernel_rfl) ?_; simp [go_sem]) | (refine awp_ret ?_; simp [go_sem]) | (refine awp_skip ?_; simp [go_sem]) | (refine awp_exit ?_; simp [go_sem])))
          have : A ≠ B := by rintro rfl; exact hd rfl
          simp [this]
        · simp at hd
          (repeat (first | refine awp_seq ?_ | refine awp_block ?_ | (refine awp_runG [0, 1, 4, 5, 10, 14, 25] hX ?_; (simp [go_sem]; try simp (disch := omega) only [w64, td, tm])) | (refine awp_drawnG [0, 1, 4, 5, 10, 14, 25] hX mixed (by kernel_rfl) ?_; (simp [go_sem]; try simp (disch := omega) only [w64, td, tm])) | (refine awp_ret ?_; (simp [go_sem]; try simp (disch := omega) only [w64, td, tm])) | (refine awp_skip ?_; (simp [go_sem]; try simp (disch := omega) only [w64, td, tm])) | (refine awp_exit ?_; (simp [go_sem]; try simp (disch := omega) only [w64, td, tm]))))
          refine ⟨k + 1, ⟨by omega, by rw [List.take_succ_eq_append_getElem hc, List.take_succ_eq_append_getElem hc', hn, hd]⟩, by omega, ?_⟩
          refine sub_of _ [] (by simp [go_sem]) ?_
          simp [go_sem]
      · simp at hc
        (repeat (first | refine awp_seq ?_ | refine awp_block ?_ | (refine awp_runG [0, 1, 4, 5, 10, 14, 25] hX ?_; simp [go_sem]) | (refine awp_drawnG [0, 1, 4, 5, 10, 14, 25] hX mixed (by kernel_rfl) ?_; simp [go_sem]) | (refine awp_ret ?_; simp [go_sem]) | (refine awp_skip ?_; simp [go_sem]) | (refine awp_exit ?_; simp [go_sem])))
        have : k = A.length := by omega
        subst this
        rw [List.take_length, hb, List.take_length] at hn
        simp [hn]

theorem voice_m (who : Int) (yes : Bool) (day : Int) : Means true Try.prog 20 [ii who, bb yes, ii day] (vo ⟨0, who, yes, day⟩) := by
  refine means_fn true 11 [.cell 6 38] Try.func20 rfl rfl rfl (by simp) rfl fun X hX => ?_
  (repeat (first | refine awp_seq ?_ | refine awp_block ?_ | (refine awp_runG [0, 1, 2, 6] hX ?_; simp [go_sem]) | (refine awp_drawnG [0, 1, 2, 6] hX mixed (by kernel_rfl) ?_; simp [go_sem]) | (refine awp_ret ?_; simp [go_sem]) | (refine awp_skip ?_; simp [go_sem]) | (refine awp_exit ?_; simp [go_sem])))

set_option maxHeartbeats 400000 in
theorem says_m (m need : Int) (l : List V) (hl : l.length ≤ 9223372036854775807) (hm : 0 ≤ m ∧ m ≤ 9223372036854775807) (hn : 0 ≤ need ∧ need ≤ 9223372036854775807) : Means true Try.prog 22 [ii m, ii need, .sl (l.map vo)] (ii (says m need l)) := by
  refine means_fn true 34 [.tmp 6] Try.func22 rfl rfl rfl (by simp) rfl fun X hX => ?_
  (repeat (first | refine awp_seq ?_ | refine awp_block ?_ | (refine awp_runG [0, 1, 2, 6, 7, 9, 10, 11, 12, 13, 17, 21, 25] hX ?_; simp [go_sem]) | (refine awp_drawnG [0, 1, 2, 6, 7, 9, 10, 11, 12, 13, 17, 21, 25] hX mixed (by kernel_rfl) ?_; simp [go_sem]) | (refine awp_ret ?_; simp [go_sem]) | (refine awp_skip ?_; simp [go_sem]) | (refine awp_exit ?_; simp [go_sem])))
  refine awp_loop (fun k : Nat => ⟨mkE [(0, ii m), (1, ii need), (2, .sl (l.map vo)), (6, ii 0), (7, ii (yesN (l.take k))), (10, .sl (l.map vo)), (11, ii l.length), (12, ii k)], []⟩) (fun k => k ≤ l.length) (fun k => l.length - k) 0 ?_ ?_ ?_
  · refine sub_of _ [] (by simp [go_sem]) ?_
    simp [go_sem, yesN]
  · simp
  · rintro k hk
    have hy := yesN_le (l.take k)
    rw [List.length_take] at hy
    (repeat (first | refine awp_seq ?_ | refine awp_block ?_ | (refine awp_runG [0, 1, 2, 6, 7, 9, 10, 11, 12, 13, 17, 21, 25] hX ?_; simp [go_sem]) | (refine awp_drawnG [0, 1, 2, 6, 7, 9, 10, 11, 12, 13, 17, 21, 25] hX mixed (by kernel_rfl) ?_; simp [go_sem]) | (refine awp_ret ?_; simp [go_sem]) | (refine awp_skip ?_; simp [go_sem]) | (refine awp_exit ?_; simp [go_sem])))
    refine awp_cond (b := decide (k < l.length)) (by simp [go_sem]) (fun hb => ?_) (fun hb => ?_)
    · simp at hb
      (repeat (first | refine awp_seq ?_ | refine awp_block ?_ | (refine awp_runG [0, 1, 2, 6, 7, 9, 10, 11, 12, 13, 17, 21, 25] hX ?_; simp [go_sem, hb]) | (refine awp_drawnG [0, 1, 2, 6, 7, 9, 10, 11, 12, 13, 17, 21, 25] hX mixed (by kernel_rfl) ?_; simp [go_sem, hb]) | (refine awp_ret ?_; simp [go_sem, hb]) | (refine awp_skip ?_; simp [go_sem, hb]) | (refine awp_exit ?_; simp [go_sem, hb])))
      have hs := yesN_succ hb
      have hy' := yesN_le (l.take (k + 1))
      refine awp_cond (b := l[k].yes) (by simp [go_sem]) (fun hc => ?_) (fun hc => ?_)
      · (repeat (first | refine awp_seq ?_ | refine awp_block ?_ | (refine awp_runG [0, 1, 2, 6, 7, 9, 10, 11, 12, 13, 17, 21, 25] hX ?_; (simp [go_sem]; try simp (disch := omega) only [w64, td, tm])) | (refine awp_drawnG [0, 1, 2, 6, 7, 9, 10, 11, 12, 13, 17, 21, 25] hX mixed (by kernel_rfl) ?_; (simp [go_sem]; try simp (disch := omega) only [w64, td, tm])) | (refine awp_ret ?_; (simp [go_sem]; try simp (disch := omega) only [w64, td, tm])) | (refine awp_skip ?_; (simp [go_sem]; try simp (disch := omega) only [w64, td, tm])) | (refine awp_exit ?_; (simp [go_sem]; try simp (disch := omega) only [w64, td, tm]))))
        refine ⟨k + 1, by omega, by omega, ?_⟩
        refine sub_of _ [] (by simp [go_sem]) ?_
        simp [go_sem, hs, hc]
      · (repeat (first | refine awp_seq ?_ | refine awp_block ?_ | (refine awp_runG [0, 1, 2, 6, 7, 9, 10, 11, 12, 13, 17, 21, 25] hX ?_; (simp [go_sem]; try simp (disch := omega) only [w64, td, tm])) | (refine awp_drawnG [0, 1, 2, 6, 7, 9, 10, 11, 12, 13, 17, 21, 25] hX mixed (by kernel_rfl) ?_; (simp [go_sem]; try simp (disch := omega) only [w64, td, tm])) | (refine awp_ret ?_; (simp [go_sem]; try simp (disch := omega) only [w64, td, tm])) | (refine awp_skip ?_; (simp [go_sem]; try simp (disch := omega) only [w64, td, tm])) | (refine awp_exit ?_; (simp [go_sem]; try simp (disch := omega) only [w64, td, tm]))))
        refine ⟨k + 1, by omega, by omega, ?_⟩
        refine sub_of _ [] (by simp [go_sem]) ?_
        simp [go_sem, hs, hc]
    · simp at hb
      have : k = l.length := by omega
      have e : l.take k = l := List.take_of_length_le (by omega)
      rw [e] at hy
      (repeat (first | refine awp_seq ?_ | refine awp_block ?_ | (refine awp_runG [0, 1, 2, 6, 7, 9, 10, 11, 12, 13, 17, 21, 25] hX ?_; simp [go_sem, e]) | (refine awp_drawnG [0, 1, 2, 6, 7, 9, 10, 11, 12, 13, 17, 21, 25] hX mixed (by kernel_rfl) ?_; simp [go_sem, e]) | (refine awp_ret ?_; simp [go_sem, e]) | (refine awp_skip ?_; simp [go_sem, e]) | (refine awp_exit ?_; simp [go_sem, e])))
      refine awp_cond (b := decide (need ≤ yesN l)) (by simp [go_sem]) (fun hc => ?_) (fun hc => ?_)
      · simp at hc
        (repeat (first | refine awp_seq ?_ | refine awp_block ?_ | (refine awp_runG [0, 1, 2, 6, 7, 9, 10, 11, 12, 13, 17, 21, 25] hX ?_; simp [go_sem]) | (refine awp_drawnG [0, 1, 2, 6, 7, 9, 10, 11, 12, 13, 17, 21, 25] hX mixed (by kernel_rfl) ?_; simp [go_sem]) | (refine awp_ret ?_; simp [go_sem]) | (refine awp_skip ?_; simp [go_sem]) | (refine awp_exit ?_; simp [go_sem])))
        simp [says, hc]
      · simp at hc
        (repeat (first | refine awp_seq ?_ | refine awp_block ?_ | (refine awp_runG [0, 1, 2, 6, 7, 9, 10, 11, 12, 13, 17, 21, 25] hX ?_; (simp [go_sem]; try simp (disch := omega) only [w64, td, tm])) | (refine awp_drawnG [0, 1, 2, 6, 7, 9, 10, 11, 12, 13, 17, 21, 25] hX mixed (by kernel_rfl) ?_; (simp [go_sem]; try simp (disch := omega) only [w64, td, tm])) | (refine awp_ret ?_; (simp [go_sem]; try simp (disch := omega) only [w64, td, tm])) | (refine awp_skip ?_; (simp [go_sem]; try simp (disch := omega) only [w64, td, tm])) | (refine awp_exit ?_; (simp [go_sem]; try simp (disch := omega) only [w64, td, tm]))))
        have hc' : ¬ need ≤ yesN l := by omega
        refine awp_cond (b := decide (m - need < (l.length : Int) - yesN l)) (by simp [go_sem]) (fun hd => ?_) (fun hd => ?_)
        · simp at hd
          (repeat (first | refine awp_seq ?_ | refine awp_block ?_ | (refine awp_runG [0, 1, 2, 6, 7, 9, 10, 11, 12, 13, 17, 21, 25] hX ?_; simp [go_sem]) | (refine awp_drawnG [0, 1, 2, 6, 7, 9, 10, 11, 12, 13, 17, 21, 25] hX mixed (by kernel_rfl) ?_; simp [go_sem]) | (refine awp_ret ?_; simp [go_sem]) | (refine awp_skip ?_; simp [go_sem]) | (refine awp_exit ?_; simp [go_sem])))
          simp [says, hc', hd]
        · simp at hd
          (repeat (first | refine awp_seq ?_ | refine awp_block ?_ | (refine awp_runG [0, 1, 2, 6, 7, 9, 10, 11, 12, 13, 17, 21, 25] hX ?_; simp [go_sem]) | (refine awp_drawnG [0, 1, 2, 6, 7, 9, 10, 11, 12, 13, 17, 21, 25] hX mixed (by kernel_rfl) ?_; simp [go_sem]) | (refine awp_ret ?_; simp [go_sem]) | (refine awp_skip ?_; simp [go_sem]) | (refine awp_exit ?_; simp [go_sem])))
          have hd' : ¬ (m - need < (l.length : Int) - yesN l) := by omega
          simp [says, hc', hd']

theorem look_es (w : Int) (l : List V) : findA (tyk Try.prog 3) (ii w) (l.map fun v => (ii v.who, bb true)) = some (if w ∈ l.map V.who then some (bb true) else none) := by
  induction l with
  | nil => simp [findA]
  | cons v l ih =>
    simp only [List.map_cons, findA, tk3, eqV, if_true]
    rw [← tk3, ih]
    by_cases h : w = v.who
    · simp [h]
    · have : (w == v.who) = false := by simp [h]
      simp [this, h]
@[go_sem] theorem lookA_es (w : Int) (l : List V) : lookA Try.prog 3 4 (ii w) (l.map fun v => (ii v.who, bb true)) false = some (bb (spoke w l)) := by
  unfold lookA spoke
  rw [look_es, tk4]
  by_cases h : w ∈ l.map V.who <;> simp only [h, if_true, if_false, foundA] <;> simp
theorem updA_es (w : Int) : ∀ (l : List V), spoke w l = false → updA (tyk Try.prog 3) (ii w) (bb true) (l.map fun v => (ii v.who, bb true)) = some ((l.map fun v => (ii v.who, bb true)) ++ [(ii w, bb true)])
  | [], _ => rfl
  | v :: l, h => by
    simp only [spoke, List.map_cons, List.mem_cons, not_or, decide_eq_false_iff_not] at h
    have h1 : (w == v.who) = false := by simp [h.1]
    have := updA_es w l (by simpa [spoke] using h.2)
    rw [tk3] at this
    simp only [List.map_cons, updA, tk3, eqV, if_true, h1, this, Option.map_some, List.cons_append]

set_option maxHeartbeats 400000 in
theorem counted_m (L : List Int) (hl : L.length ≤ 9223372036854775807) (vs : List V) (hv : vs.length ≤ 100000) (u : Int) : Means true Try.prog 16 [.sl (L.map ii), .sl (vs.map vo), ii u] (.sl ((counted L vs u).map vo)) := by
  refine means_fn true 47 [.tmp 6] Try.func16 rfl rfl rfl (by simp) rfl fun X hX => ?_
  (repeat (first | refine awp_seq ?_ | refine awp_block ?_ | (refine awp_runG [0, 1, 2, 6, 7, 8, 10, 13, 15, 16, 17, 18, 37] hX ?_; simp [go_sem]) | (refine awp_drawnG [0, 1, 2, 6, 7, 8, 10, 13, 15, 16, 17, 18, 37] hX mixed (by kernel_rfl) ?_; simp [go_sem]) | (refine awp_ret ?_; simp [go_sem]) | (refine awp_skip ?_; simp [go_sem]) | (refine awp_exit ?_; simp [go_sem])))
  refine callK_intro (valid_m L hl) rfl (by simp [go_sem]) ?_
  try simp [go_sem]
  (repeat (first | refine awp_seq ?_ | refine awp_block ?_ | (refine awp_runG [0, 1, 2, 6, 7, 8, 10, 13, 15, 16, 17, 18, 37] hX ?_; simp [go_sem]) | (refine awp_drawnG [0, 1, 2, 6, 7, 8, 10, 13, 15, 16, 17, 18, 37] hX mixed (by kernel_rfl) ?_; simp [go_sem]) | (refine awp_ret ?_; simp [go_sem]) | (refine awp_skip ?_; simp [go_sem]) | (refine awp_exit ?_; simp [go_sem])))
  refine awp_cond (b := !okM L) (by simp [go_sem]) (fun hb => ?_) (fun hb => ?_)
  · simp at hb
    (repeat (first | refine awp_seq ?_ | refine awp_block ?_ | (refine awp_runG [0, 1, 2, 6, 7, 8, 10, 13, 15, 16, 17, 18, 37] hX ?_; simp [go_sem]) | (refine awp_drawnG [0, 1, 2, 6, 7, 8, 10, 13, 15, 16, 17, 18, 37] hX mixed (by kernel_rfl) ?_; simp [go_sem]) | (refine awp_ret ?_; simp [go_sem]) | (refine awp_skip ?_; simp [go_sem]) | (refine awp_exit ?_; simp [go_sem])))
    simp [counted, hb]
  · simp at hb
    (repeat (first | refine awp_seq ?_ | refine awp_block ?_ | (refine awp_runG [0, 1, 2, 6, 7, 8, 10, 13, 15, 16, 17, 18, 37] hX ?_; simp [go_sem]) | (refine awp_drawnG [0, 1, 2, 6, 7, 8, 10, 13, 15, 16, 17, 18, 37] hX mixed (by kernel_rfl) ?_; simp [go_sem]) | (refine awp_ret ?_; simp [go_sem]) | (refine awp_skip ?_; simp [go_sem]) | (refine awp_exit ?_; simp [go_sem])))
    refine awp_loop (fun k : Nat => ⟨mkE [(0, .sl (L.map ii)), (1, .sl (vs.map vo)), (2, ii u), (6, .nil), (7, .ow 0), (8, .ow 1), (15, .sl (vs.map vo)), (16, ii vs.length), (17, ii k)],
      [.map ⟨3, 4, (cnt L u (vs.take k)).map fun v => (ii v.who, bb true)⟩, .row ⟨38, 4, (cnt L u (vs.take k)).map vo⟩]⟩) (fun k => k ≤ vs.length) (fun k => vs.length - k) 0 ?_ ?_ ?_
    · refine sub_of _ [.oldM 0 ⟨3, 4, []⟩, .birth 38 4] (by simp [go_sem]) ?_
      simp [go_sem, cnt]
    · simp
    · rintro k hk
      have hcl := cnt_len L u (vs.take k)
      rw [List.length_take] at hcl
      (repeat (first | refine awp_seq ?_ | refine awp_block ?_ | (refine awp_runG [0, 1, 2, 6, 7, 8, 10, 13, 15, 16, 17, 18, 37] hX ?_; simp [go_sem]) | (refine awp_drawnG [0, 1, 2, 6, 7, 8, 10, 13, 15, 16, 17, 18, 37] hX mixed (by kernel_rfl) ?_; simp [go_sem]) | (refine awp_ret ?_; simp [go_sem]) | (refine awp_skip ?_; simp [go_sem]) | (refine awp_exit ?_; simp [go_sem])))
      refine awp_cond (b := decide (k < vs.length)) (by simp [go_sem]) (fun hc => ?_) (fun hc => ?_)
      · simp at hc
        (repeat (first | refine awp_seq ?_ | refine awp_block ?_ | (refine awp_runG [0, 1, 2, 6, 7, 8, 10, 13, 15, 16, 17, 18, 37] hX ?_; simp [go_sem, hc]) | (refine awp_drawnG [0, 1, 2, 6, 7, 8, 10, 13, 15, 16, 17, 18, 37] hX mixed (by kernel_rfl) ?_; simp [go_sem, hc]) | (refine awp_ret ?_; simp [go_sem, hc]) | (refine awp_skip ?_; simp [go_sem, hc]) | (refine awp_exit ?_; simp [go_sem, hc])))
        refine callG_intro (fun hg => contains_m L hl vs[k].who) rfl (by simp [go_sem]) ?_
        try simp [go_sem]
        (repeat (first | refine awp_seq ?_ | refine awp_block ?_ | (refine awp_runG [0, 1, 2, 6, 7, 8, 10, 13, 15, 16, 17, 18, 37] hX ?_; simp [go_sem]) | (refine awp_drawnG [0, 1, 2, 6, 7, 8, 10, 13, 15, 16, 17, 18, 37] hX mixed (by kernel_rfl) ?_; simp [go_sem]) | (refine awp_ret ?_; simp [go_sem]) | (refine awp_skip ?_; simp [go_sem]) | (refine awp_exit ?_; simp [go_sem])))
        refine awp_cond (b := skips L u (cnt L u (vs.take k)) vs[k]) (by simp [go_sem, skips]) (fun hd => ?_) (fun hd => ?_)
        · have e : cnt L u (vs.take (k + 1)) = cnt L u (vs.take k) := by simp [cnt_succ hc, cstep, hd]
          (repeat (first | refine awp_seq ?_ | refine awp_block ?_ | (refine awp_runG [0, 1, 2, 6, 7, 8, 10, 13, 15, 16, 17, 18, 37] hX ?_; (simp [go_sem]; try simp (disch := omega) only [w64, td, tm])) | (refine awp_drawnG [0, 1, 2, 6, 7, 8, 10, 13, 15, 16, 17, 18, 37] hX mixed (by kernel_rfl) ?_; (simp [go_sem]; try simp (disch := omega) only [w64, td, tm])) | (refine awp_ret ?_; (simp [go_sem]; try simp (disch := omega) only [w64, td, tm])) | (refine awp_skip ?_; (simp [go_sem]; try simp (disch := omega) only [w64, td, tm])) | (refine awp_exit ?_; (simp [go_sem]; try simp (disch := omega) only [w64, td, tm]))))
          refine ⟨k + 1, by omega, by omega, ?_⟩
          simp only [e]
          refine sub_of _ [.oldM 0 (MOb.mk 3 4 (List.map (fun v : V => (ii v.who, bb true)) (cnt L u (vs.take k)))), .old 1 ⟨38, 4, (cnt L u (vs.take k)).map vo⟩] (by simp [go_sem]) ?_
          simp [go_sem]
        · have hw : spoke vs[k].who (cnt L u (vs.take k)) = false := by simp [skips] at hd; exact hd.1.2
          have hu := updA_es _ _ hw
          rw [tk3] at hu
          have e : cnt L u (vs.take (k + 1)) = cnt L u (vs.take k) ++ [vs[k]] := by simp [cnt_succ hc, cstep, hd]
          (repeat (first | refine awp_seq ?_ | refine awp_block ?_ | (refine awp_runG [0, 1, 2, 6, 7, 8, 10, 13, 15, 16, 17, 18, 37] hX ?_; (simp [go_sem, hu]; try simp (disch := omega) only [w64, td, tm])) | (refine awp_drawnG [0, 1, 2, 6, 7, 8, 10, 13, 15, 16, 17, 18, 37] hX mixed (by kernel_rfl) ?_; (simp [go_sem, hu]; try simp (disch := omega) only [w64, td, tm])) | (refine awp_ret ?_; (simp [go_sem, hu]; try simp (disch := omega) only [w64, td, tm])) | (refine awp_skip ?_; (simp [go_sem, hu]; try simp (disch := omega) only [w64, td, tm])) | (refine awp_exit ?_; (simp [go_sem, hu]; try simp (disch := omega) only [w64, td, tm]))))
          refine ⟨⟨by omega, by unfold maxLen; omega⟩, ?_⟩
          (repeat (first | refine awp_seq ?_ | refine awp_block ?_ | (refine awp_runG [0, 1, 2, 6, 7, 8, 10, 13, 15, 16, 17, 18, 37] hX ?_; (simp [go_sem]; try simp (disch := omega) only [w64, td, tm])) | (refine awp_drawnG [0, 1, 2, 6, 7, 8, 10, 13, 15, 16, 17, 18, 37] hX mixed (by kernel_rfl) ?_; (simp [go_sem]; try simp (disch := omega) only [w64, td, tm])) | (refine awp_ret ?_; (simp [go_sem]; try simp (disch := omega) only [w64, td, tm])) | (refine awp_skip ?_; (simp [go_sem]; try simp (disch := omega) only [w64, td, tm])) | (refine awp_exit ?_; (simp [go_sem]; try simp (disch := omega) only [w64, td, tm]))))
          refine ⟨k + 1, by omega, by omega, ?_⟩
          simp only [e, List.map_append, List.map_cons, List.map_nil]
          refine sub_of _ [.oldM 0 ⟨3, 4, ((cnt L u (vs.take k)).map fun v => (ii v.who, bb true)) ++ [(ii vs[k].who, bb true)]⟩, .old 4 ⟨38, 4, (cnt L u (vs.take k)).map vo ++ [vo vs[k]]⟩] (by simp [go_sem]) ?_
          simp [go_sem]
      · simp at hc
        (repeat (first | refine awp_seq ?_ | refine awp_block ?_ | (refine awp_runG [0, 1, 2, 6, 7, 8, 10, 13, 15, 16, 17, 18, 37] hX ?_; simp [go_sem]) | (refine awp_drawnG [0, 1, 2, 6, 7, 8, 10, 13, 15, 16, 17, 18, 37] hX mixed (by kernel_rfl) ?_; simp [go_sem]) | (refine awp_ret ?_; simp [go_sem]) | (refine awp_skip ?_; simp [go_sem]) | (refine awp_exit ?_; simp [go_sem])))
        rw [List.take_of_length_le (by omega)]
        simp [counted, hb]

set_option maxHeartbeats 400000 in
theorem countedR_m (L : List Int) (hl : L.length ≤ 9223372036854775807) (vs : List V) (hv : vs.length ≤ 100000) (u : Int) : Means true Try.prog 17 [.sl (L.map ii), .sl (vs.map vo), ii u] (.sl ((counted L vs u).map vo)) := by
  refine means_fn true 71 [.tmp 6] Try.func17 rfl rfl rfl (by simp) rfl fun X hX => ?_
  (repeat (first | refine awp_seq ?_ | refine awp_block ?_ | (refine awp_runG [0, 1, 2, 6, 7, 8, 9, 10, 18, 22, 45, 62] hX ?_; simp [go_sem]) | (refine awp_drawnG [0, 1, 2, 6, 7, 8, 9, 10, 18, 22, 45, 62] hX mixed (by kernel_rfl) ?_; simp [go_sem]) | (refine awp_ret ?_; simp [go_sem]) | (refine awp_skip ?_; simp [go_sem]) | (refine awp_exit ?_; simp [go_sem])))
  refine callG_intro (fun hg => members_m L hl) rfl (by simp [go_sem]) ?_
  try simp [go_sem]
  (repeat (first | refine awp_seq ?_ | refine awp_block ?_ | (refine awp_runG [0, 1, 2, 6, 7, 8, 9, 10, 18, 22, 45, 62] hX ?_; simp [go_sem]) | (refine awp_drawnG [0, 1, 2, 6, 7, 8, 9, 10, 18, 22, 45, 62] hX mixed (by kernel_rfl) ?_; simp [go_sem]) | (refine awp_ret ?_; simp [go_sem]) | (refine awp_skip ?_; simp [go_sem]) | (refine awp_exit ?_; simp [go_sem])))
  have h60 : okM L = true → (L.length : Int) ≤ 60 := fun h => by simp [okM] at h; omega
  refine awp_cond (b := !okM L) (by simp [go_sem]; intro h; cases ho : okM L <;> simp; have := h60 ho; omega) (fun hb => ?_) (fun hb => ?_)
  · simp at hb
    (repeat (first | refine awp_seq ?_ | refine awp_block ?_ | (refine awp_runG [0, 1, 2, 6, 7, 8, 9, 10, 18, 22, 45, 62] hX ?_; simp [go_sem]) | (refine awp_drawnG [0, 1, 2, 6, 7, 8, 9, 10, 18, 22, 45, 62] hX mixed (by kernel_rfl) ?_; simp [go_sem]) | (refine awp_ret ?_; simp [go_sem]) | (refine awp_skip ?_; simp [go_sem]) | (refine awp_exit ?_; simp [go_sem])))
    simp [counted, hb]
  · simp at hb
    (repeat (first | refine awp_seq ?_ | refine awp_block ?_ | (refine awp_runG [0, 1, 2, 6, 7, 8, 9, 10, 18, 22, 45, 62] hX ?_; simp [go_sem]) | (refine awp_drawnG [0, 1, 2, 6, 7, 8, 9, 10, 18, 22, 45, 62] hX mixed (by kernel_rfl) ?_; simp [go_sem]) | (refine awp_ret ?_; simp [go_sem]) | (refine awp_skip ?_; simp [go_sem]) | (refine awp_exit ?_; simp [go_sem])))
    refine awp_loop (fun k : Nat => ⟨mkE [(0, .sl (L.map ii)), (1, .sl (vs.map vo)), (2, ii u), (6, .nil), (7, .ow 0), (8, ii k)],
      [.row ⟨38, 4, (cnt L u (vs.take k)).map vo⟩]⟩) (fun k => k ≤ vs.length) (fun k => vs.length - k) 0 ?_ ?_ ?_
    · refine sub_of _ [.birth 38 4] (by simp [go_sem]) ?_
      simp [go_sem, cnt]
    · simp
    · rintro k hk
      have hcl := cnt_len L u (vs.take k)
      rw [List.length_take] at hcl
      (repeat (first | refine awp_seq ?_ | refine awp_block ?_ | (refine awp_runG [0, 1, 2, 6, 7, 8, 9, 10, 18, 22, 45, 62] hX ?_; simp [go_sem]) | (refine awp_drawnG [0, 1, 2, 6, 7, 8, 9, 10, 18, 22, 45, 62] hX mixed (by kernel_rfl) ?_; simp [go_sem]) | (refine awp_ret ?_; simp [go_sem]) | (refine awp_skip ?_; simp [go_sem]) | (refine awp_exit ?_; simp [go_sem])))
      refine awp_cond (b := decide (k < vs.length)) (by simp [go_sem]) (fun hc => ?_) (fun hc => ?_)
      · simp at hc
        (repeat (first | refine awp_seq ?_ | refine awp_block ?_ | (refine awp_runG [0, 1, 2, 6, 7, 8, 9, 10, 18, 22, 45, 62] hX ?_; simp [go_sem, hc]) | (refine awp_drawnG [0, 1, 2, 6, 7, 8, 9, 10, 18, 22, 45, 62] hX mixed (by kernel_rfl) ?_; simp [go_sem, hc]) | (refine awp_ret ?_; simp [go_sem, hc]) | (refine awp_skip ?_; simp [go_sem, hc]) | (refine awp_exit ?_; simp [go_sem, hc])))
        refine callG_intro (fun hg => at_m L hl vs[k].who) rfl (by simp [go_sem]) ?_
        try simp [go_sem]
        (repeat (first | refine awp_seq ?_ | refine awp_block ?_ | (refine awp_runG [0, 1, 2, 6, 7, 8, 9, 10, 18, 22, 45, 62] hX ?_; simp [go_sem]) | (refine awp_drawnG [0, 1, 2, 6, 7, 8, 9, 10, 18, 22, 45, 62] hX mixed (by kernel_rfl) ?_; simp [go_sem]) | (refine awp_ret ?_; simp [go_sem]) | (refine awp_skip ?_; simp [go_sem]) | (refine awp_exit ?_; simp [go_sem])))
        refine awp_loop (fun j : Nat => ⟨mkE [(0, .sl (L.map ii)), (1, .sl (vs.map vo)), (2, ii u), (6, .nil), (7, .ow 0), (8, ii k), (9, bb (decide (vs[k].day ≤ u) && decide (0 ≤ idx L vs[k].who) && !spoke vs[k].who ((cnt L u (vs.take k)).take j))), (10, ii j)],
          [.row ⟨38, 4, (cnt L u (vs.take k)).map vo⟩]⟩) (fun j => j ≤ (cnt L u (vs.take k)).length) (fun j => (cnt L u (vs.take k)).length - j) 0 ?_ ?_ ?_
        · refine sub_of _ [.old 0 ⟨38, 4, (cnt L u (vs.take k)).map vo⟩] (by simp [go_sem]) ?_
          simp [go_sem, spoke]
        · simp
        · rintro j hj
          (repeat (first | refine awp_seq ?_ | refine awp_block ?_ | (refine awp_runG [0, 1, 2, 6, 7, 8, 9, 10, 18, 22, 45, 62] hX ?_; simp [go_sem]) | (refine awp_drawnG [0, 1, 2, 6, 7, 8, 9, 10, 18, 22, 45, 62] hX mixed (by kernel_rfl) ?_; simp [go_sem]) | (refine awp_ret ?_; simp [go_sem]) | (refine awp_skip ?_; simp [go_sem]) | (refine awp_exit ?_; simp [go_sem])))
          refine awp_cond (b := decide (j < (cnt L u (vs.take k)).length)) (by simp [go_sem]) (fun he => ?_) (fun he => ?_)
          · simp at he
            (repeat (first | refine awp_seq ?_ | refine awp_block ?_ | (refine awp_runG [0, 1, 2, 6, 7, 8, 9, 10, 18, 22, 45, 62] hX ?_; (simp [go_sem, he, hc]; try simp (disch := omega) only [w64, td, tm])) | (refine awp_drawnG [0, 1, 2, 6, 7, 8, 9, 10, 18, 22, 45, 62] hX mixed (by kernel_rfl) ?_; (simp [go_sem, he, hc]; try simp (disch := omega) only [w64, td, tm])) | (refine awp_ret ?_; (simp [go_sem, he, hc]; try simp (disch := omega) only [w64, td, tm])) | (refine awp_skip ?_; (simp [go_sem, he, hc]; try simp (disch := omega) only [w64, td, tm])) | (refine awp_exit ?_; (simp [go_sem, he, hc]; try simp (disch := omega) only [w64, td, tm]))))
            refine ⟨j + 1, by omega, by omega, ?_⟩
            refine sub_of _ [.old 0 ⟨38, 4, (cnt L u (vs.take k)).map vo⟩] (by simp [go_sem]) ?_
            simp [go_sem, spoke_succ he, Bool.and_assoc]
          · simp at he
            (repeat (first | refine awp_seq ?_ | refine awp_block ?_ | (refine awp_runG [0, 1, 2, 6, 7, 8, 9, 10, 18, 22, 45, 62] hX ?_; simp [go_sem]) | (refine awp_drawnG [0, 1, 2, 6, 7, 8, 9, 10, 18, 22, 45, 62] hX mixed (by kernel_rfl) ?_; simp [go_sem]) | (refine awp_ret ?_; simp [go_sem]) | (refine awp_skip ?_; simp [go_sem]) | (refine awp_exit ?_; simp [go_sem])))
            rw [List.take_of_length_le (by omega)]
            refine awp_cond (b := !skips L u (cnt L u (vs.take k)) vs[k]) (by rw [← skips_not]; simp [go_sem, idx_nonneg]) (fun hd => ?_) (fun hd => ?_)
            · simp at hd
              have e : cnt L u (vs.take (k + 1)) = cnt L u (vs.take k) ++ [vs[k]] := by simp [cnt_succ hc, cstep, hd]
              (repeat (first | refine awp_seq ?_ | refine awp_block ?_ | (refine awp_runG [0, 1, 2, 6, 7, 8, 9, 10, 18, 22, 45, 62] hX ?_; (simp [go_sem, hc]; try simp (disch := omega) only [w64, td, tm])) | (refine awp_drawnG [0, 1, 2, 6, 7, 8, 9, 10, 18, 22, 45, 62] hX mixed (by kernel_rfl) ?_; (simp [go_sem, hc]; try simp (disch := omega) only [w64, td, tm])) | (refine awp_ret ?_; (simp [go_sem, hc]; try simp (disch := omega) only [w64, td, tm])) | (refine awp_skip ?_; (simp [go_sem, hc]; try simp (disch := omega) only [w64, td, tm])) | (refine awp_exit ?_; (simp [go_sem, hc]; try simp (disch := omega) only [w64, td, tm]))))
              refine ⟨⟨by omega, by unfold maxLen; omega⟩, ?_⟩
              (repeat (first | refine awp_seq ?_ | refine awp_block ?_ | (refine awp_runG [0, 1, 2, 6, 7, 8, 9, 10, 18, 22, 45, 62] hX ?_; (simp [go_sem]; try simp (disch := omega) only [w64, td, tm])) | (refine awp_drawnG [0, 1, 2, 6, 7, 8, 9, 10, 18, 22, 45, 62] hX mixed (by kernel_rfl) ?_; (simp [go_sem]; try simp (disch := omega) only [w64, td, tm])) | (refine awp_ret ?_; (simp [go_sem]; try simp (disch := omega) only [w64, td, tm])) | (refine awp_skip ?_; (simp [go_sem]; try simp (disch := omega) only [w64, td, tm])) | (refine awp_exit ?_; (simp [go_sem]; try simp (disch := omega) only [w64, td, tm]))))
              refine ⟨k + 1, by omega, by omega, ?_⟩
              simp only [e, List.map_append, List.map_cons, List.map_nil]
              refine sub_of _ [.old 2 ⟨38, 4, (cnt L u (vs.take k)).map vo ++ [vo vs[k]]⟩] (by simp [go_sem]) ?_
              simp [go_sem]
            · simp at hd
              have e : cnt L u (vs.take (k + 1)) = cnt L u (vs.take k) := by simp [cnt_succ hc, cstep, hd]
              (repeat (first | refine awp_seq ?_ | refine awp_block ?_ | (refine awp_runG [0, 1, 2, 6, 7, 8, 9, 10, 18, 22, 45, 62] hX ?_; (simp [go_sem]; try simp (disch := omega) only [w64, td, tm])) | (refine awp_drawnG [0, 1, 2, 6, 7, 8, 9, 10, 18, 22, 45, 62] hX mixed (by kernel_rfl) ?_; (simp [go_sem]; try simp (disch := omega) only [w64, td, tm])) | (refine awp_ret ?_; (simp [go_sem]; try simp (disch := omega) only [w64, td, tm])) | (refine awp_skip ?_; (simp [go_sem]; try simp (disch := omega) only [w64, td, tm])) | (refine awp_exit ?_; (simp [go_sem]; try simp (disch := omega) only [w64, td, tm]))))
              refine ⟨k + 1, by omega, by omega, ?_⟩
              simp only [e]
              refine sub_of _ [.old 0 ⟨38, 4, (cnt L u (vs.take k)).map vo⟩] (by simp [go_sem]) ?_
              simp [go_sem]
      · simp at hc
        (repeat (first | refine awp_seq ?_ | refine awp_block ?_ | (refine awp_runG [0, 1, 2, 6, 7, 8, 9, 10, 18, 22, 45, 62] hX ?_; simp [go_sem]) | (refine awp_drawnG [0, 1, 2, 6, 7, 8, 9, 10, 18, 22, 45, 62] hX mixed (by kernel_rfl) ?_; simp [go_sem]) | (refine awp_ret ?_; simp [go_sem]) | (refine awp_skip ?_; simp [go_sem]) | (refine awp_exit ?_; simp [go_sem])))
        rw [List.take_of_length_le (by omega)]
        simp [counted, hb]

end Go.Proofs.Ytgccheogieddnaa
