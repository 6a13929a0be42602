/-
  The walks of layer 14: the token at the beginning.
-/
import Derived.Test.YtgkafceckdoabaaDoorLexB
set_option linter.all false
namespace Go.Proofs.YtgkafceckdoabaaDoor
open Go.RowKit Go.Ab
attribute [local irreducible] AWP Go.Ab.Sub Means MeansH CallK CallG CallT CallGT

theorem lprefix_m (s p : By) (hs : s.length ≤ 100000) : Means true Tryd.prog 38 [ss s, ss p] (bb (p.isPrefixOf s)) := by
  refine means_fn true 18 [.tmp 4] Tryd.func38 rfl rfl rfl (by simp) (by decide) rfl fun X hX => ?_
  by_cases hp : p.length ≤ s.length
  · have hd : decide ((p.length : Int) ≤ s.length) = true := by simp only [decide_eq_true_eq]; omega
    (repeat (first | refine awp_seq ?_ | refine awp_block ?_ | (refine awp_runG [0, 1, 4] hX ?_; (simp [go_sem, hd]; try (refine ⟨by kernel_rfl, ?_⟩))) | (refine awp_drawnG [0, 1, 4] hX mixed ?_; (simp [go_sem, hd]; try (refine ⟨by kernel_rfl, ?_⟩))) | (refine awp_ret ?_; (simp [go_sem, hd]; try (refine ⟨by kernel_rfl, ?_⟩))) | (refine awp_skip ?_; (simp [go_sem, hd]; try (refine ⟨by kernel_rfl, ?_⟩))) | (refine awp_exit ?_; (simp [go_sem, hd]; try (refine ⟨by kernel_rfl, ?_⟩)))))
    (repeat refine And.intro (by first | omega | (unfold maxLen; omega) | kernel_rfl | (refine ⟨by first | omega | (unfold maxLen; omega), by first | omega | (unfold maxLen; omega)⟩) | grind) ?_)
    (repeat (first | refine awp_seq ?_ | refine awp_block ?_ | (refine awp_runG [0, 1, 4] hX ?_; (simp [go_sem]; try (refine ⟨by kernel_rfl, ?_⟩))) | (refine awp_drawnG [0, 1, 4] hX mixed ?_; (simp [go_sem]; try (refine ⟨by kernel_rfl, ?_⟩))) | (refine awp_ret ?_; (simp [go_sem]; try (refine ⟨by kernel_rfl, ?_⟩))) | (refine awp_skip ?_; (simp [go_sem]; try (refine ⟨by kernel_rfl, ?_⟩))) | (refine awp_exit ?_; (simp [go_sem]; try (refine ⟨by kernel_rfl, ?_⟩)))))
    rw [Bool.eq_iff_iff]
    simp [List.isPrefixOf_iff_prefix, List.prefix_iff_eq_take, hp]
    try (constructor <;> intro h <;> exact h.symm)
  · have hd : decide ((p.length : Int) ≤ s.length) = false := by simp only [decide_eq_false_iff_not]; omega
    (repeat (first | refine awp_seq ?_ | refine awp_block ?_ | (refine awp_runG [0, 1, 4] hX ?_; (simp [go_sem, hd]; try (refine ⟨by kernel_rfl, ?_⟩))) | (refine awp_drawnG [0, 1, 4] hX mixed ?_; (simp [go_sem, hd]; try (refine ⟨by kernel_rfl, ?_⟩))) | (refine awp_ret ?_; (simp [go_sem, hd]; try (refine ⟨by kernel_rfl, ?_⟩))) | (refine awp_skip ?_; (simp [go_sem, hd]; try (refine ⟨by kernel_rfl, ?_⟩))) | (refine awp_exit ?_; (simp [go_sem, hd]; try (refine ⟨by kernel_rfl, ?_⟩)))))
    cases h : p.isPrefixOf s with
    | false => simp; try omega
    | true =>
      rw [List.isPrefixOf_iff_prefix] at h
      exact (hp h.length_le).elim
theorem prefix_m (s p : By) (hs : s.length ≤ 100000) : Means true Tryd.prog 33 [ss s, ss p] (bb (p.isPrefixOf s)) := by
  refine means_fn true 8 [.tmp 4] Tryd.func33 rfl rfl rfl (by simp) (by decide) rfl fun X hX => ?_
  (repeat (first | refine awp_seq ?_ | refine awp_block ?_ | (refine awp_runG [0, 1, 4] hX ?_; (simp [go_sem]; try (refine ⟨by kernel_rfl, ?_⟩))) | (refine awp_drawnG [0, 1, 4] hX mixed ?_; (simp [go_sem]; try (refine ⟨by kernel_rfl, ?_⟩))) | (refine awp_ret ?_; (simp [go_sem]; try (refine ⟨by kernel_rfl, ?_⟩))) | (refine awp_skip ?_; (simp [go_sem]; try (refine ⟨by kernel_rfl, ?_⟩))) | (refine awp_exit ?_; (simp [go_sem]; try (refine ⟨by kernel_rfl, ?_⟩)))))
  first | refine callK_intro (lprefix_m s p hs) rfl (by simp [go_sem]) rfl ?_ | refine callT_intro (lprefix_m s p hs) rfl (by simp [go_sem]) rfl ?_
  try (simp [go_sem]; try (refine ⟨by kernel_rfl, ?_⟩))
  (repeat (first | refine awp_seq ?_ | refine awp_block ?_ | (refine awp_runG [0, 1, 4] hX ?_; (simp [go_sem]; try (refine ⟨by kernel_rfl, ?_⟩))) | (refine awp_drawnG [0, 1, 4] hX mixed ?_; (simp [go_sem]; try (refine ⟨by kernel_rfl, ?_⟩))) | (refine awp_ret ?_; (simp [go_sem]; try (refine ⟨by kernel_rfl, ?_⟩))) | (refine awp_skip ?_; (simp [go_sem]; try (refine ⟨by kernel_rfl, ?_⟩))) | (refine awp_exit ?_; (simp [go_sem]; try (refine ⟨by kernel_rfl, ?_⟩)))))

theorem sign_find (c : UInt8) (r : By) (hl : isLetter c = false) (hd : isDigit c = false) : tok (c :: r) = match signs.find? (·.isPrefixOf (c :: r)) with
    | some p => .ok 3 p 0
    | none => .err 11 := by
  simp only [tok, hl, hd, Bool.false_eq_true, if_false]
  by_cases h61 : c = 61
  · subst h61
    cases r with
    | nil => simp [signs, List.find?_cons, List.isPrefixOf, isSign1]
    | cons d r =>
      by_cases hd61 : d = 61
      · subst hd61; simp [signs, List.find?_cons, List.isPrefixOf]
      · have : ((61 : UInt8) == d) = false := by simpa using fun h => hd61 h.symm
        simp [signs, List.find?_cons, List.isPrefixOf, isSign1, hd61, this]
  · have h0 : (c == 61) = false := by simpa using h61
    have h0' : ((61 : UInt8) == c) = false := by simpa using fun h => h61 h.symm
    simp only [h0, Bool.false_and, Bool.false_eq_true, if_false]
    by_cases h1 : c = 59
    · subst h1; simp [signs, List.find?_cons, List.isPrefixOf, isSign1]
    by_cases h2 : c = 44
    · subst h2; simp [signs, List.find?_cons, List.isPrefixOf, isSign1]
    by_cases h3 : c = 60
    · subst h3; simp [signs, List.find?_cons, List.isPrefixOf, isSign1]
    by_cases h4 : c = 43
    · subst h4; simp [signs, List.find?_cons, List.isPrefixOf, isSign1]
    by_cases h5 : c = 45
    · subst h5; simp [signs, List.find?_cons, List.isPrefixOf, isSign1]
    by_cases h6 : c = 42
    · subst h6; simp [signs, List.find?_cons, List.isPrefixOf, isSign1]
    by_cases h7 : c = 47
    · subst h7; simp [signs, List.find?_cons, List.isPrefixOf, isSign1]
    by_cases h8 : c = 40
    · subst h8; simp [signs, List.find?_cons, List.isPrefixOf, isSign1]
    by_cases h9 : c = 41
    · subst h9; simp [signs, List.find?_cons, List.isPrefixOf, isSign1]
    have e : ∀ k : UInt8, c ≠ k → (k == c) = false := fun k h => by simpa using fun e => h e.symm
    simp [signs, List.find?_cons, List.isPrefixOf, isSign1, h0', h61, h1, h2, h3, h4, h5, h6, h7, h8, h9, e _ h1, e _ h2, e _ h3, e _ h4, e _ h5, e _ h6, e _ h7, e _ h8, e _ h9]

/-- What next returns. -/
def tokAV (p : Int) (x : Tok) : AV := match x with
  | .ok k t n => .tup [tk ⟨k, t, n, p⟩, ii 0]
  | .err e => .tup [tk ⟨0, [], 0, 0⟩, ii e]

theorem word_al {c : UInt8} {r : By} (hl : isLetter c = true) : isWord ((c :: r).takeWhile isAl) = decide (((c :: r).takeWhile isAl).length ≤ 20) := by
  have h1 := tw_mem isAl (c :: r)
  have h2 : (c :: r).takeWhile isAl = c :: r.takeWhile isAl := by simp [List.takeWhile_cons, isAl, hl]
  rw [h2] at h1 ⊢
  simp only [isWord, hl, h1, Bool.and_true, Bool.true_and]

set_option maxHeartbeats 2000000 in
set_option maxRecDepth 20000 in
theorem next_m (c : UInt8) (r : By) (hlen : (c :: r).length ≤ 100000) : Means true Tryd.prog 24 [ss (c :: r)] (tokAV 0 (tok (c :: r))) := by
  refine means_fn true 54 [.cell 2 25, .tmp 3] Tryd.func24 rfl rfl rfl (by simp) (by decide) rfl fun X hX => ?_
  (repeat (first | refine awp_seq ?_ | refine awp_block ?_ | (refine awp_runG [0, 2, 3, 4, 5, 6, 7, 9, 10, 20, 24, 38, 43, 44, 45, 49] hX ?_; (simp [go_sem]; try (refine ⟨by kernel_rfl, ?_⟩))) | (refine awp_drawnG [0, 2, 3, 4, 5, 6, 7, 9, 10, 20, 24, 38, 43, 44, 45, 49] hX mixed ?_; (simp [go_sem]; try (refine ⟨by kernel_rfl, ?_⟩))) | (refine awp_ret ?_; (simp [go_sem]; try (refine ⟨by kernel_rfl, ?_⟩))) | (refine awp_skip ?_; (simp [go_sem]; try (refine ⟨by kernel_rfl, ?_⟩))) | (refine awp_exit ?_; (simp [go_sem]; try (refine ⟨by kernel_rfl, ?_⟩)))))
  first | refine callK_intro (letter_m c) rfl (by simp [go_sem]) rfl ?_ | refine callT_intro (letter_m c) rfl (by simp [go_sem]) rfl ?_
  try (simp [go_sem]; try (refine ⟨by kernel_rfl, ?_⟩))
  (repeat (first | refine awp_seq ?_ | refine awp_block ?_ | (refine awp_runG [0, 2, 3, 4, 5, 6, 7, 9, 10, 20, 24, 38, 43, 44, 45, 49] hX ?_; (simp [go_sem]; try (refine ⟨by kernel_rfl, ?_⟩))) | (refine awp_drawnG [0, 2, 3, 4, 5, 6, 7, 9, 10, 20, 24, 38, 43, 44, 45, 49] hX mixed ?_; (simp [go_sem]; try (refine ⟨by kernel_rfl, ?_⟩))) | (refine awp_ret ?_; (simp [go_sem]; try (refine ⟨by kernel_rfl, ?_⟩))) | (refine awp_skip ?_; (simp [go_sem]; try (refine ⟨by kernel_rfl, ?_⟩))) | (refine awp_exit ?_; (simp [go_sem]; try (refine ⟨by kernel_rfl, ?_⟩)))))
  refine awp_cond (b := isLetter c) (by simp [go_sem]) (fun hl => ?_) (fun hl => ?_)
  · have hle := tw_len isAl (c :: r)
    have hpre := tw_pre isAl (c :: r)
    (repeat (first | refine awp_seq ?_ | refine awp_block ?_ | (refine awp_runG [0, 2, 3, 4, 5, 6, 7, 9, 10, 20, 24, 38, 43, 44, 45, 49] hX ?_; (simp [go_sem]; try (refine ⟨by kernel_rfl, ?_⟩))) | (refine awp_drawnG [0, 2, 3, 4, 5, 6, 7, 9, 10, 20, 24, 38, 43, 44, 45, 49] hX mixed ?_; (simp [go_sem]; try (refine ⟨by kernel_rfl, ?_⟩))) | (refine awp_ret ?_; (simp [go_sem]; try (refine ⟨by kernel_rfl, ?_⟩))) | (refine awp_skip ?_; (simp [go_sem]; try (refine ⟨by kernel_rfl, ?_⟩))) | (refine awp_exit ?_; (simp [go_sem]; try (refine ⟨by kernel_rfl, ?_⟩)))))
    first | refine callK_intro (span_m 32 isAl (by simp [go_sem]) al2_m (c :: r) hlen) rfl (by simp [go_sem]) rfl ?_ | refine callT_intro (span_m 32 isAl (by simp [go_sem]) al2_m (c :: r) hlen) rfl (by simp [go_sem]) rfl ?_
    try (simp [go_sem]; try (refine ⟨by kernel_rfl, ?_⟩))
    (repeat refine And.intro (by first | omega | (unfold maxLen; omega) | kernel_rfl | (refine ⟨by first | omega | (unfold maxLen; omega), by first | omega | (unfold maxLen; omega)⟩) | grind) ?_)
    (repeat (first | refine awp_seq ?_ | refine awp_block ?_ | (refine awp_runG [0, 2, 3, 4, 5, 6, 7, 9, 10, 20, 24, 38, 43, 44, 45, 49] hX ?_; (simp [go_sem]; try (refine ⟨by kernel_rfl, ?_⟩))) | (refine awp_drawnG [0, 2, 3, 4, 5, 6, 7, 9, 10, 20, 24, 38, 43, 44, 45, 49] hX mixed ?_; (simp [go_sem]; try (refine ⟨by kernel_rfl, ?_⟩))) | (refine awp_ret ?_; (simp [go_sem]; try (refine ⟨by kernel_rfl, ?_⟩))) | (refine awp_skip ?_; (simp [go_sem]; try (refine ⟨by kernel_rfl, ?_⟩))) | (refine awp_exit ?_; (simp [go_sem]; try (refine ⟨by kernel_rfl, ?_⟩)))))
    rw [← hpre]
    first | refine callK_intro (word_m ((c :: r).takeWhile isAl) (by omega)) rfl (by simp [go_sem]) rfl ?_ | refine callT_intro (word_m ((c :: r).takeWhile isAl) (by omega)) rfl (by simp [go_sem]) rfl ?_
    try (simp [go_sem]; try (refine ⟨by kernel_rfl, ?_⟩))
    (repeat (first | refine awp_seq ?_ | refine awp_block ?_ | (refine awp_runG [0, 2, 3, 4, 5, 6, 7, 9, 10, 20, 24, 38, 43, 44, 45, 49] hX ?_; (simp [go_sem]; try (refine ⟨by kernel_rfl, ?_⟩))) | (refine awp_drawnG [0, 2, 3, 4, 5, 6, 7, 9, 10, 20, 24, 38, 43, 44, 45, 49] hX mixed ?_; (simp [go_sem]; try (refine ⟨by kernel_rfl, ?_⟩))) | (refine awp_ret ?_; (simp [go_sem]; try (refine ⟨by kernel_rfl, ?_⟩))) | (refine awp_skip ?_; (simp [go_sem]; try (refine ⟨by kernel_rfl, ?_⟩))) | (refine awp_exit ?_; (simp [go_sem]; try (refine ⟨by kernel_rfl, ?_⟩)))))
    refine awp_cond (b := !isWord ((c :: r).takeWhile isAl)) (by simp [go_sem]) (fun hw => ?_) (fun hw => ?_)
    · (repeat (first | refine awp_seq ?_ | refine awp_block ?_ | (refine awp_runG [0, 2, 3, 4, 5, 6, 7, 9, 10, 20, 24, 38, 43, 44, 45, 49] hX ?_; (simp [go_sem]; try (refine ⟨by kernel_rfl, ?_⟩))) | (refine awp_drawnG [0, 2, 3, 4, 5, 6, 7, 9, 10, 20, 24, 38, 43, 44, 45, 49] hX mixed ?_; (simp [go_sem]; try (refine ⟨by kernel_rfl, ?_⟩))) | (refine awp_ret ?_; (simp [go_sem]; try (refine ⟨by kernel_rfl, ?_⟩))) | (refine awp_skip ?_; (simp [go_sem]; try (refine ⟨by kernel_rfl, ?_⟩))) | (refine awp_exit ?_; (simp [go_sem]; try (refine ⟨by kernel_rfl, ?_⟩)))))
      rw [word_al hl] at hw
      simp at hw
      simp [tok, hl, tokAV]
      rw [if_neg (by omega)]
    · (repeat (first | refine awp_seq ?_ | refine awp_block ?_ | (refine awp_runG [0, 2, 3, 4, 5, 6, 7, 9, 10, 20, 24, 38, 43, 44, 45, 49] hX ?_; (simp [go_sem]; try (refine ⟨by kernel_rfl, ?_⟩))) | (refine awp_drawnG [0, 2, 3, 4, 5, 6, 7, 9, 10, 20, 24, 38, 43, 44, 45, 49] hX mixed ?_; (simp [go_sem]; try (refine ⟨by kernel_rfl, ?_⟩))) | (refine awp_ret ?_; (simp [go_sem]; try (refine ⟨by kernel_rfl, ?_⟩))) | (refine awp_skip ?_; (simp [go_sem]; try (refine ⟨by kernel_rfl, ?_⟩))) | (refine awp_exit ?_; (simp [go_sem]; try (refine ⟨by kernel_rfl, ?_⟩)))))
      rw [word_al hl] at hw
      simp at hw
      simp [tok, hl, tokAV]
      rw [if_pos (by omega)]
  · (repeat (first | refine awp_seq ?_ | refine awp_block ?_ | (refine awp_runG [0, 2, 3, 4, 5, 6, 7, 9, 10, 20, 24, 38, 43, 44, 45, 49] hX ?_; (simp [go_sem]; try (refine ⟨by kernel_rfl, ?_⟩))) | (refine awp_drawnG [0, 2, 3, 4, 5, 6, 7, 9, 10, 20, 24, 38, 43, 44, 45, 49] hX mixed ?_; (simp [go_sem]; try (refine ⟨by kernel_rfl, ?_⟩))) | (refine awp_ret ?_; (simp [go_sem]; try (refine ⟨by kernel_rfl, ?_⟩))) | (refine awp_skip ?_; (simp [go_sem]; try (refine ⟨by kernel_rfl, ?_⟩))) | (refine awp_exit ?_; (simp [go_sem]; try (refine ⟨by kernel_rfl, ?_⟩)))))
    first | refine callK_intro (digit_m c) rfl (by simp [go_sem]) rfl ?_ | refine callT_intro (digit_m c) rfl (by simp [go_sem]) rfl ?_
    try (simp [go_sem]; try (refine ⟨by kernel_rfl, ?_⟩))
    (repeat (first | refine awp_seq ?_ | refine awp_block ?_ | (refine awp_runG [0, 2, 3, 4, 5, 6, 7, 9, 10, 20, 24, 38, 43, 44, 45, 49] hX ?_; (simp [go_sem]; try (refine ⟨by kernel_rfl, ?_⟩))) | (refine awp_drawnG [0, 2, 3, 4, 5, 6, 7, 9, 10, 20, 24, 38, 43, 44, 45, 49] hX mixed ?_; (simp [go_sem]; try (refine ⟨by kernel_rfl, ?_⟩))) | (refine awp_ret ?_; (simp [go_sem]; try (refine ⟨by kernel_rfl, ?_⟩))) | (refine awp_skip ?_; (simp [go_sem]; try (refine ⟨by kernel_rfl, ?_⟩))) | (refine awp_exit ?_; (simp [go_sem]; try (refine ⟨by kernel_rfl, ?_⟩)))))
    refine awp_cond (b := isDigit c) (by simp [go_sem]) (fun hd => ?_) (fun hd => ?_)
    · have hle := tw_len isDigit (c :: r)
      have hpre := tw_pre isDigit (c :: r)
      (repeat (first | refine awp_seq ?_ | refine awp_block ?_ | (refine awp_runG [0, 2, 3, 4, 5, 6, 7, 9, 10, 20, 24, 38, 43, 44, 45, 49] hX ?_; (simp [go_sem]; try (refine ⟨by kernel_rfl, ?_⟩))) | (refine awp_drawnG [0, 2, 3, 4, 5, 6, 7, 9, 10, 20, 24, 38, 43, 44, 45, 49] hX mixed ?_; (simp [go_sem]; try (refine ⟨by kernel_rfl, ?_⟩))) | (refine awp_ret ?_; (simp [go_sem]; try (refine ⟨by kernel_rfl, ?_⟩))) | (refine awp_skip ?_; (simp [go_sem]; try (refine ⟨by kernel_rfl, ?_⟩))) | (refine awp_exit ?_; (simp [go_sem]; try (refine ⟨by kernel_rfl, ?_⟩)))))
      first | refine callK_intro (span_m 26 isDigit (by simp [go_sem]) digit_m (c :: r) hlen) rfl (by simp [go_sem]) rfl ?_ | refine callT_intro (span_m 26 isDigit (by simp [go_sem]) digit_m (c :: r) hlen) rfl (by simp [go_sem]) rfl ?_
      try (simp [go_sem]; try (refine ⟨by kernel_rfl, ?_⟩))
      (repeat refine And.intro (by first | omega | (unfold maxLen; omega) | kernel_rfl | (refine ⟨by first | omega | (unfold maxLen; omega), by first | omega | (unfold maxLen; omega)⟩) | grind) ?_)
      (repeat (first | refine awp_seq ?_ | refine awp_block ?_ | (refine awp_runG [0, 2, 3, 4, 5, 6, 7, 9, 10, 20, 24, 38, 43, 44, 45, 49] hX ?_; (simp [go_sem]; try (refine ⟨by kernel_rfl, ?_⟩))) | (refine awp_drawnG [0, 2, 3, 4, 5, 6, 7, 9, 10, 20, 24, 38, 43, 44, 45, 49] hX mixed ?_; (simp [go_sem]; try (refine ⟨by kernel_rfl, ?_⟩))) | (refine awp_ret ?_; (simp [go_sem]; try (refine ⟨by kernel_rfl, ?_⟩))) | (refine awp_skip ?_; (simp [go_sem]; try (refine ⟨by kernel_rfl, ?_⟩))) | (refine awp_exit ?_; (simp [go_sem]; try (refine ⟨by kernel_rfl, ?_⟩)))))
      rw [← hpre]
      first | refine callK_intro (number_m ((c :: r).takeWhile isDigit) (by omega)) rfl (by simp [go_sem]) rfl ?_ | refine callT_intro (number_m ((c :: r).takeWhile isDigit) (by omega)) rfl (by simp [go_sem]) rfl ?_
      try (simp [go_sem]; try (refine ⟨by kernel_rfl, ?_⟩))
      (repeat (first | refine awp_seq ?_ | refine awp_block ?_ | (refine awp_runG [0, 2, 3, 4, 5, 6, 7, 9, 10, 20, 24, 38, 43, 44, 45, 49] hX ?_; (simp [go_sem]; try (refine ⟨by kernel_rfl, ?_⟩))) | (refine awp_drawnG [0, 2, 3, 4, 5, 6, 7, 9, 10, 20, 24, 38, 43, 44, 45, 49] hX mixed ?_; (simp [go_sem]; try (refine ⟨by kernel_rfl, ?_⟩))) | (refine awp_ret ?_; (simp [go_sem]; try (refine ⟨by kernel_rfl, ?_⟩))) | (refine awp_skip ?_; (simp [go_sem]; try (refine ⟨by kernel_rfl, ?_⟩))) | (refine awp_exit ?_; (simp [go_sem]; try (refine ⟨by kernel_rfl, ?_⟩)))))
      refine awp_cond (b := !isNum ((c :: r).takeWhile isDigit)) (by simp [go_sem]) (fun hw => ?_) (fun hw => ?_)
      · (repeat (first | refine awp_seq ?_ | refine awp_block ?_ | (refine awp_runG [0, 2, 3, 4, 5, 6, 7, 9, 10, 20, 24, 38, 43, 44, 45, 49] hX ?_; (simp [go_sem]; try (refine ⟨by kernel_rfl, ?_⟩))) | (refine awp_drawnG [0, 2, 3, 4, 5, 6, 7, 9, 10, 20, 24, 38, 43, 44, 45, 49] hX mixed ?_; (simp [go_sem]; try (refine ⟨by kernel_rfl, ?_⟩))) | (refine awp_ret ?_; (simp [go_sem]; try (refine ⟨by kernel_rfl, ?_⟩))) | (refine awp_skip ?_; (simp [go_sem]; try (refine ⟨by kernel_rfl, ?_⟩))) | (refine awp_exit ?_; (simp [go_sem]; try (refine ⟨by kernel_rfl, ?_⟩)))))
        simp only [Bool.not_eq_true'] at hw
        rw [show tok (c :: r) = .err 3 by simp only [tok, hl, hd, hw, Bool.false_eq_true, if_false, if_true]]
        simp [tokAV]
      · (repeat (first | refine awp_seq ?_ | refine awp_block ?_ | (refine awp_runG [0, 2, 3, 4, 5, 6, 7, 9, 10, 20, 24, 38, 43, 44, 45, 49] hX ?_; (simp [go_sem]; try (refine ⟨by kernel_rfl, ?_⟩))) | (refine awp_drawnG [0, 2, 3, 4, 5, 6, 7, 9, 10, 20, 24, 38, 43, 44, 45, 49] hX mixed ?_; (simp [go_sem]; try (refine ⟨by kernel_rfl, ?_⟩))) | (refine awp_ret ?_; (simp [go_sem]; try (refine ⟨by kernel_rfl, ?_⟩))) | (refine awp_skip ?_; (simp [go_sem]; try (refine ⟨by kernel_rfl, ?_⟩))) | (refine awp_exit ?_; (simp [go_sem]; try (refine ⟨by kernel_rfl, ?_⟩)))))
        simp only [Bool.not_eq_false'] at hw
        rw [show tok (c :: r) = .ok 2 ((c :: r).takeWhile isDigit) (numVal ((c :: r).takeWhile isDigit)) by simp only [tok, hl, hd, hw, Bool.false_eq_true, if_false, if_true]]
        simp only [hw, if_true, tokAV]
    · (repeat (first | refine awp_seq ?_ | refine awp_block ?_ | (refine awp_runG [0, 2, 3, 4, 5, 6, 7, 9, 10, 20, 24, 38, 43, 44, 45, 49] hX ?_; (simp [go_sem]; try (refine ⟨by kernel_rfl, ?_⟩))) | (refine awp_drawnG [0, 2, 3, 4, 5, 6, 7, 9, 10, 20, 24, 38, 43, 44, 45, 49] hX mixed ?_; (simp [go_sem]; try (refine ⟨by kernel_rfl, ?_⟩))) | (refine awp_ret ?_; (simp [go_sem]; try (refine ⟨by kernel_rfl, ?_⟩))) | (refine awp_skip ?_; (simp [go_sem]; try (refine ⟨by kernel_rfl, ?_⟩))) | (refine awp_exit ?_; (simp [go_sem]; try (refine ⟨by kernel_rfl, ?_⟩)))))
      refine ⟨by decide, fun e he id hid => ?_, ?_⟩
      · obtain ⟨p, _, rfl⟩ := List.mem_map.1 (List.mem_of_mem_take he)
        simp [AV.idB] at hid
      (repeat (first | refine awp_seq ?_ | refine awp_block ?_ | (refine awp_runG [0, 2, 3, 4, 5, 6, 7, 9, 10, 20, 24, 38, 43, 44, 45, 49] hX ?_; (simp [go_sem]; try (refine ⟨by kernel_rfl, ?_⟩))) | (refine awp_drawnG [0, 2, 3, 4, 5, 6, 7, 9, 10, 20, 24, 38, 43, 44, 45, 49] hX mixed ?_; (simp [go_sem]; try (refine ⟨by kernel_rfl, ?_⟩))) | (refine awp_ret ?_; (simp [go_sem]; try (refine ⟨by kernel_rfl, ?_⟩))) | (refine awp_skip ?_; (simp [go_sem]; try (refine ⟨by kernel_rfl, ?_⟩))) | (refine awp_exit ?_; (simp [go_sem]; try (refine ⟨by kernel_rfl, ?_⟩)))))
      refine awp_loop (fun k : Nat => ⟨mkE [(0, ss (c :: r)), (2, .el 0 4 0 0), (3, ii 0), (43, .agg (signs.map ss)), (44, ii k)], [.row ⟨25, 4, [tk ⟨0, [], 0, 0⟩]⟩]⟩) (fun k => k ≤ 11 ∧ ∀ j (h : j < signs.length), j < k → signs[j].isPrefixOf (c :: r) = false) (fun k => 11 - k) 0 ?_ ?_ ?_
      · refine sub_of _ [.old 0 ⟨25, 4, [tk ⟨0, [], 0, 0⟩]⟩] (by simp [go_sem]) ?_
        simp [go_sem, signs]
      · simp
      · rintro k ⟨hk, hn⟩
        (repeat (first | refine awp_seq ?_ | refine awp_block ?_ | (refine awp_runG [0, 2, 3, 4, 5, 6, 7, 9, 10, 20, 24, 38, 43, 44, 45, 49] hX ?_; (simp [go_sem]; try (refine ⟨by kernel_rfl, ?_⟩))) | (refine awp_drawnG [0, 2, 3, 4, 5, 6, 7, 9, 10, 20, 24, 38, 43, 44, 45, 49] hX mixed ?_; (simp [go_sem]; try (refine ⟨by kernel_rfl, ?_⟩))) | (refine awp_ret ?_; (simp [go_sem]; try (refine ⟨by kernel_rfl, ?_⟩))) | (refine awp_skip ?_; (simp [go_sem]; try (refine ⟨by kernel_rfl, ?_⟩))) | (refine awp_exit ?_; (simp [go_sem]; try (refine ⟨by kernel_rfl, ?_⟩)))))
        refine awp_cond (b := decide (k < 11)) (by simp [go_sem]; try omega) (fun hb => ?_) (fun hb => ?_)
        · simp at hb
          have hks : k < signs.length := hb
          (repeat (first | refine awp_seq ?_ | refine awp_block ?_ | (refine awp_runG [0, 2, 3, 4, 5, 6, 7, 9, 10, 20, 24, 38, 43, 44, 45, 49] hX ?_; (simp [go_sem, hks]; try (refine ⟨by kernel_rfl, ?_⟩))) | (refine awp_drawnG [0, 2, 3, 4, 5, 6, 7, 9, 10, 20, 24, 38, 43, 44, 45, 49] hX mixed ?_; (simp [go_sem, hks]; try (refine ⟨by kernel_rfl, ?_⟩))) | (refine awp_ret ?_; (simp [go_sem, hks]; try (refine ⟨by kernel_rfl, ?_⟩))) | (refine awp_skip ?_; (simp [go_sem, hks]; try (refine ⟨by kernel_rfl, ?_⟩))) | (refine awp_exit ?_; (simp [go_sem, hks]; try (refine ⟨by kernel_rfl, ?_⟩)))))
          (repeat refine And.intro (by first | omega | (unfold maxLen; omega) | kernel_rfl | (refine ⟨by first | omega | (unfold maxLen; omega), by first | omega | (unfold maxLen; omega)⟩) | grind) ?_)
          (repeat (first | refine awp_seq ?_ | refine awp_block ?_ | (refine awp_runG [0, 2, 3, 4, 5, 6, 7, 9, 10, 20, 24, 38, 43, 44, 45, 49] hX ?_; (simp [go_sem, hks]; try (refine ⟨by kernel_rfl, ?_⟩))) | (refine awp_drawnG [0, 2, 3, 4, 5, 6, 7, 9, 10, 20, 24, 38, 43, 44, 45, 49] hX mixed ?_; (simp [go_sem, hks]; try (refine ⟨by kernel_rfl, ?_⟩))) | (refine awp_ret ?_; (simp [go_sem, hks]; try (refine ⟨by kernel_rfl, ?_⟩))) | (refine awp_skip ?_; (simp [go_sem, hks]; try (refine ⟨by kernel_rfl, ?_⟩))) | (refine awp_exit ?_; (simp [go_sem, hks]; try (refine ⟨by kernel_rfl, ?_⟩)))))
          first | refine callK_intro (prefix_m (c :: r) signs[k] hlen) rfl (by simp [go_sem]) rfl ?_ | refine callT_intro (prefix_m (c :: r) signs[k] hlen) rfl (by simp [go_sem]) rfl ?_
          try (simp [go_sem]; try (refine ⟨by kernel_rfl, ?_⟩))
          (repeat (first | refine awp_seq ?_ | refine awp_block ?_ | (refine awp_runG [0, 2, 3, 4, 5, 6, 7, 9, 10, 20, 24, 38, 43, 44, 45, 49] hX ?_; (simp [go_sem]; try (refine ⟨by kernel_rfl, ?_⟩))) | (refine awp_drawnG [0, 2, 3, 4, 5, 6, 7, 9, 10, 20, 24, 38, 43, 44, 45, 49] hX mixed ?_; (simp [go_sem]; try (refine ⟨by kernel_rfl, ?_⟩))) | (refine awp_ret ?_; (simp [go_sem]; try (refine ⟨by kernel_rfl, ?_⟩))) | (refine awp_skip ?_; (simp [go_sem]; try (refine ⟨by kernel_rfl, ?_⟩))) | (refine awp_exit ?_; (simp [go_sem]; try (refine ⟨by kernel_rfl, ?_⟩)))))
          refine awp_cond (b := signs[k].isPrefixOf (c :: r)) (by simp [go_sem]) (fun hp => ?_) (fun hp => ?_)
          · (repeat (first | refine awp_seq ?_ | refine awp_block ?_ | (refine awp_runG [0, 2, 3, 4, 5, 6, 7, 9, 10, 20, 24, 38, 43, 44, 45, 49] hX ?_; (simp [go_sem]; try (refine ⟨by kernel_rfl, ?_⟩))) | (refine awp_drawnG [0, 2, 3, 4, 5, 6, 7, 9, 10, 20, 24, 38, 43, 44, 45, 49] hX mixed ?_; (simp [go_sem]; try (refine ⟨by kernel_rfl, ?_⟩))) | (refine awp_ret ?_; (simp [go_sem]; try (refine ⟨by kernel_rfl, ?_⟩))) | (refine awp_skip ?_; (simp [go_sem]; try (refine ⟨by kernel_rfl, ?_⟩))) | (refine awp_exit ?_; (simp [go_sem]; try (refine ⟨by kernel_rfl, ?_⟩)))))
            have : signs.find? (·.isPrefixOf (c :: r)) = some signs[k] := List.find?_eq_some_iff_getElem.2 ⟨hp, k, hks, rfl, fun j hj => by simp [hn j (by omega) hj]⟩
            rw [sign_find c r hl hd, this]
            simp [tokAV]
          · (repeat (first | refine awp_seq ?_ | refine awp_block ?_ | (refine awp_runG [0, 2, 3, 4, 5, 6, 7, 9, 10, 20, 24, 38, 43, 44, 45, 49] hX ?_; (simp [go_sem]; (try simp (disch := omega) only [w64, td, tm]); try (refine ⟨by kernel_rfl, ?_⟩))) | (refine awp_drawnG [0, 2, 3, 4, 5, 6, 7, 9, 10, 20, 24, 38, 43, 44, 45, 49] hX mixed ?_; (simp [go_sem]; (try simp (disch := omega) only [w64, td, tm]); try (refine ⟨by kernel_rfl, ?_⟩))) | (refine awp_ret ?_; (simp [go_sem]; (try simp (disch := omega) only [w64, td, tm]); try (refine ⟨by kernel_rfl, ?_⟩))) | (refine awp_skip ?_; (simp [go_sem]; (try simp (disch := omega) only [w64, td, tm]); try (refine ⟨by kernel_rfl, ?_⟩))) | (refine awp_exit ?_; (simp [go_sem]; (try simp (disch := omega) only [w64, td, tm]); try (refine ⟨by kernel_rfl, ?_⟩)))))
            refine ⟨k + 1, ⟨by omega, fun j h1 h2 => ?_⟩, by omega, ?_⟩
            · by_cases hjk : j = k
              · subst hjk; exact hp
              · exact hn j h1 (by omega)
            · refine sub_of _ [.old 0 ⟨25, 4, [tk ⟨0, [], 0, 0⟩]⟩] (by simp [go_sem]) ?_
              simp [go_sem]
        · have hk11 : k = 11 := by simp at hb; omega
          subst hk11
          (repeat (first | refine awp_seq ?_ | refine awp_block ?_ | (refine awp_runG [0, 2, 3, 4, 5, 6, 7, 9, 10, 20, 24, 38, 43, 44, 45, 49] hX ?_; (simp [go_sem]; try (refine ⟨by kernel_rfl, ?_⟩))) | (refine awp_drawnG [0, 2, 3, 4, 5, 6, 7, 9, 10, 20, 24, 38, 43, 44, 45, 49] hX mixed ?_; (simp [go_sem]; try (refine ⟨by kernel_rfl, ?_⟩))) | (refine awp_ret ?_; (simp [go_sem]; try (refine ⟨by kernel_rfl, ?_⟩))) | (refine awp_skip ?_; (simp [go_sem]; try (refine ⟨by kernel_rfl, ?_⟩))) | (refine awp_exit ?_; (simp [go_sem]; try (refine ⟨by kernel_rfl, ?_⟩)))))
          have : signs.find? (·.isPrefixOf (c :: r)) = none := by
            rw [List.find?_eq_none]
            intro p hp
            obtain ⟨j, hj, rfl⟩ := List.getElem_of_mem hp
            simp [hn j hj hj]
          rw [sign_find c r hl hd, this]
          simp [tokAV]

end Go.Proofs.YtgkafceckdoabaaDoor
