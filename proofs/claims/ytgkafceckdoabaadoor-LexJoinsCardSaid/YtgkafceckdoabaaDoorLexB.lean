/-
  The walks of layer 14: words, numbers, the next token.
-/
import Derived.Test.YtgkafceckdoabaaDoorLexA
set_option linter.all false
namespace Go.Proofs.YtgkafceckdoabaaDoor
open Go.RowKit Go.Ab
attribute [local irreducible] AWP Go.Ab.Sub Means MeansH CallK CallG CallT CallGT

theorem tw_len_eq (f : UInt8 → Bool) (l : By) : (l.takeWhile f).length = l.length ↔ l.all f = true := by
  constructor
  · intro h
    have h1 := tw_mem f l
    have h2 := tw_pre f l
    rw [h, List.take_length] at h2
    rwa [h2] at h1
  · intro h; rw [tw_all f l h]

theorem word_m (l : By) (hl : l.length ≤ 100000) : Means true Tryd.prog 16 [ss l] (bb (isWord l)) := by
  refine means_fn true 21 [.tmp 2] Tryd.func16 rfl rfl rfl (by simp) (by decide) rfl fun X hX => ?_
  cases l with
  | nil =>
    (repeat (first | refine awp_seq ?_ | refine awp_block ?_ | (refine awp_runG [0, 2, 15] hX ?_; (simp [go_sem]; try (refine ⟨by kernel_rfl, ?_⟩))) | (refine awp_drawnG [0, 2, 15] hX mixed ?_; (simp [go_sem]; try (refine ⟨by kernel_rfl, ?_⟩))) | (refine awp_ret ?_; (simp [go_sem]; try (refine ⟨by kernel_rfl, ?_⟩))) | (refine awp_skip ?_; (simp [go_sem]; try (refine ⟨by kernel_rfl, ?_⟩))) | (refine awp_exit ?_; (simp [go_sem]; try (refine ⟨by kernel_rfl, ?_⟩)))))
    first | refine callG_intro (fun hg => (show Means true Tryd.prog _ _ (bb false) by cases hg)) rfl (by simp [go_sem]) rfl ?_ | refine callGT_intro (fun hg => (show Means true Tryd.prog _ _ (bb false) by cases hg)) rfl (by simp [go_sem]) rfl ?_
    try (simp [go_sem]; try (refine ⟨by kernel_rfl, ?_⟩))
    (repeat (first | refine awp_seq ?_ | refine awp_block ?_ | (refine awp_runG [0, 2, 15] hX ?_; (simp [go_sem]; try (refine ⟨by kernel_rfl, ?_⟩))) | (refine awp_drawnG [0, 2, 15] hX mixed ?_; (simp [go_sem]; try (refine ⟨by kernel_rfl, ?_⟩))) | (refine awp_ret ?_; (simp [go_sem]; try (refine ⟨by kernel_rfl, ?_⟩))) | (refine awp_skip ?_; (simp [go_sem]; try (refine ⟨by kernel_rfl, ?_⟩))) | (refine awp_exit ?_; (simp [go_sem]; try (refine ⟨by kernel_rfl, ?_⟩)))))
    refine awp_cond (b := true) (by simp [go_sem]) (fun hb => ?_) (fun hb => by cases hb)
    (repeat (first | refine awp_seq ?_ | refine awp_block ?_ | (refine awp_runG [0, 2, 15] hX ?_; (simp [go_sem]; try (refine ⟨by kernel_rfl, ?_⟩))) | (refine awp_drawnG [0, 2, 15] hX mixed ?_; (simp [go_sem]; try (refine ⟨by kernel_rfl, ?_⟩))) | (refine awp_ret ?_; (simp [go_sem]; try (refine ⟨by kernel_rfl, ?_⟩))) | (refine awp_skip ?_; (simp [go_sem]; try (refine ⟨by kernel_rfl, ?_⟩))) | (refine awp_exit ?_; (simp [go_sem]; try (refine ⟨by kernel_rfl, ?_⟩)))))
    simp [isWord]
  | cons c r =>
    (repeat (first | refine awp_seq ?_ | refine awp_block ?_ | (refine awp_runG [0, 2, 15] hX ?_; (simp [go_sem]; try (refine ⟨by kernel_rfl, ?_⟩))) | (refine awp_drawnG [0, 2, 15] hX mixed ?_; (simp [go_sem]; try (refine ⟨by kernel_rfl, ?_⟩))) | (refine awp_ret ?_; (simp [go_sem]; try (refine ⟨by kernel_rfl, ?_⟩))) | (refine awp_skip ?_; (simp [go_sem]; try (refine ⟨by kernel_rfl, ?_⟩))) | (refine awp_exit ?_; (simp [go_sem]; try (refine ⟨by kernel_rfl, ?_⟩)))))
    first | refine callG_intro (fun hg => letter_m c) rfl (by simp [go_sem]) rfl ?_ | refine callGT_intro (fun hg => letter_m c) rfl (by simp [go_sem]) rfl ?_
    try (simp [go_sem]; try (refine ⟨by kernel_rfl, ?_⟩))
    (repeat (first | refine awp_seq ?_ | refine awp_block ?_ | (refine awp_runG [0, 2, 15] hX ?_; (simp [go_sem]; try (refine ⟨by kernel_rfl, ?_⟩))) | (refine awp_drawnG [0, 2, 15] hX mixed ?_; (simp [go_sem]; try (refine ⟨by kernel_rfl, ?_⟩))) | (refine awp_ret ?_; (simp [go_sem]; try (refine ⟨by kernel_rfl, ?_⟩))) | (refine awp_skip ?_; (simp [go_sem]; try (refine ⟨by kernel_rfl, ?_⟩))) | (refine awp_exit ?_; (simp [go_sem]; try (refine ⟨by kernel_rfl, ?_⟩)))))
    refine awp_cond (b := !isLetter c || decide (20 < (c :: r).length)) (by simp [go_sem]; cases isLetter c <;> simp; try omega) (fun hb => ?_) (fun hb => ?_)
    · (repeat (first | refine awp_seq ?_ | refine awp_block ?_ | (refine awp_runG [0, 2, 15] hX ?_; (simp [go_sem]; try (refine ⟨by kernel_rfl, ?_⟩))) | (refine awp_drawnG [0, 2, 15] hX mixed ?_; (simp [go_sem]; try (refine ⟨by kernel_rfl, ?_⟩))) | (refine awp_ret ?_; (simp [go_sem]; try (refine ⟨by kernel_rfl, ?_⟩))) | (refine awp_skip ?_; (simp [go_sem]; try (refine ⟨by kernel_rfl, ?_⟩))) | (refine awp_exit ?_; (simp [go_sem]; try (refine ⟨by kernel_rfl, ?_⟩)))))
      have : isWord (c :: r) = false := by
        simp only [isWord]
        cases hc : isLetter c with
        | false => rfl
        | true => rw [hc] at hb; simp at hb; simp; intro h; omega
      rw [this]
    · simp at hb
      (repeat (first | refine awp_seq ?_ | refine awp_block ?_ | (refine awp_runG [0, 2, 15] hX ?_; (simp [go_sem]; try (refine ⟨by kernel_rfl, ?_⟩))) | (refine awp_drawnG [0, 2, 15] hX mixed ?_; (simp [go_sem]; try (refine ⟨by kernel_rfl, ?_⟩))) | (refine awp_ret ?_; (simp [go_sem]; try (refine ⟨by kernel_rfl, ?_⟩))) | (refine awp_skip ?_; (simp [go_sem]; try (refine ⟨by kernel_rfl, ?_⟩))) | (refine awp_exit ?_; (simp [go_sem]; try (refine ⟨by kernel_rfl, ?_⟩)))))
      first | refine callK_intro (span_m 29 isAl (by simp [go_sem]) al1_m (c :: r) hl) rfl (by simp [go_sem]) rfl ?_ | refine callT_intro (span_m 29 isAl (by simp [go_sem]) al1_m (c :: r) hl) rfl (by simp [go_sem]) rfl ?_
      try (simp [go_sem]; try (refine ⟨by kernel_rfl, ?_⟩))
      (repeat (first | refine awp_seq ?_ | refine awp_block ?_ | (refine awp_runG [0, 2, 15] hX ?_; (simp [go_sem]; try (refine ⟨by kernel_rfl, ?_⟩))) | (refine awp_drawnG [0, 2, 15] hX mixed ?_; (simp [go_sem]; try (refine ⟨by kernel_rfl, ?_⟩))) | (refine awp_ret ?_; (simp [go_sem]; try (refine ⟨by kernel_rfl, ?_⟩))) | (refine awp_skip ?_; (simp [go_sem]; try (refine ⟨by kernel_rfl, ?_⟩))) | (refine awp_exit ?_; (simp [go_sem]; try (refine ⟨by kernel_rfl, ?_⟩)))))
      rw [Bool.eq_iff_iff]
      simp only [isWord, Bool.and_eq_true, decide_eq_true_eq]
      have := tw_len_eq isAl (c :: r)
      simp only [List.length_cons] at this ⊢
      rw [← this]
      constructor
      · intro h; exact ⟨⟨hb.1, by omega⟩, by omega⟩
      · intro h; omega

theorem numVal_take {l : By} {k : Nat} (hk : k < l.length) : numVal (l.take (k + 1)) = 10 * numVal (l.take k) + (l[k].toNat - 48) := by
  rw [List.take_succ_eq_append_getElem hk, numVal_app]
theorem numVal_lt : ∀ {l : By}, l.all isDigit = true → ∀ k, k ≤ l.length → numVal (l.take k) < 10 ^ k
  | l, h, 0, _ => by simp [numVal]
  | l, h, k + 1, hk => by
    rw [numVal_take (by omega)]
    have := numVal_lt h k (by omega)
    have hd : isDigit l[k] = true := List.all_eq_true.1 h _ (List.getElem_mem (by omega))
    simp only [isDigit, Bool.and_eq_true, decide_eq_true_eq] at hd
    rw [Nat.pow_succ]; omega
theorem dig {c : UInt8} (h : isDigit c = true) : 48 ≤ c.toNat ∧ c.toNat ≤ 57 := by simpa [isDigit] using h

theorem u8sub {c : UInt8} (h : isDigit c = true) : IntKind.u8.wrap ((c.toNat : Int) - 48) = (c.toNat - 48 : Nat) := by
  obtain ⟨h1, h2⟩ := dig h
  rw [show ((c.toNat : Int) - 48) = ((c.toNat - 48 : Nat) : Int) by omega]
  have hk : c.toNat - 48 < 256 := by omega
  generalize c.toNat - 48 = k at hk
  revert k
  decide +kernel

theorem c48 {c : UInt8} : (c.toNat : Int) = 48 ↔ c = 48 := by
  have := u8_eq c 48
  rw [Bool.eq_iff_iff] at this
  simpa using this

/-- The value of a number, 0 without one; whether it is one. -/
abbrev numAV (l : By) : AV := .tup [ii (if isNum l then (numVal l : Int) else 0), bb (isNum l)]
set_option maxHeartbeats 1000000 in
set_option maxRecDepth 20000 in
theorem number_m (l : By) (hl : l.length ≤ 100000) : Means true Tryd.prog 13 [ss l] (numAV l) := by
  have hs := span_m 26 isDigit (by simp [go_sem]) digit_m l hl
  refine means_fn true 46 [.tmp 2, .tmp 3] Tryd.func13 rfl rfl rfl (by simp) (by decide) rfl fun X hX => ?_
  cases l with
  | nil =>
    (repeat (first | refine awp_seq ?_ | refine awp_block ?_ | (refine awp_runG [0, 2, 3, 4, 5, 28, 30, 31, 32, 44] hX ?_; (simp [go_sem]; try (refine ⟨by kernel_rfl, ?_⟩))) | (refine awp_drawnG [0, 2, 3, 4, 5, 28, 30, 31, 32, 44] hX mixed ?_; (simp [go_sem]; try (refine ⟨by kernel_rfl, ?_⟩))) | (refine awp_ret ?_; (simp [go_sem]; try (refine ⟨by kernel_rfl, ?_⟩))) | (refine awp_skip ?_; (simp [go_sem]; try (refine ⟨by kernel_rfl, ?_⟩))) | (refine awp_exit ?_; (simp [go_sem]; try (refine ⟨by kernel_rfl, ?_⟩)))))
    first | refine callG_intro (fun hg => (show Means true Tryd.prog _ _ (ii 0) by cases hg)) rfl (by simp [go_sem]) rfl ?_ | refine callGT_intro (fun hg => (show Means true Tryd.prog _ _ (ii 0) by cases hg)) rfl (by simp [go_sem]) rfl ?_
    try (simp [go_sem]; try (refine ⟨by kernel_rfl, ?_⟩))
    (repeat (first | refine awp_seq ?_ | refine awp_block ?_ | (refine awp_runG [0, 2, 3, 4, 5, 28, 30, 31, 32, 44] hX ?_; (simp [go_sem]; try (refine ⟨by kernel_rfl, ?_⟩))) | (refine awp_drawnG [0, 2, 3, 4, 5, 28, 30, 31, 32, 44] hX mixed ?_; (simp [go_sem]; try (refine ⟨by kernel_rfl, ?_⟩))) | (refine awp_ret ?_; (simp [go_sem]; try (refine ⟨by kernel_rfl, ?_⟩))) | (refine awp_skip ?_; (simp [go_sem]; try (refine ⟨by kernel_rfl, ?_⟩))) | (refine awp_exit ?_; (simp [go_sem]; try (refine ⟨by kernel_rfl, ?_⟩)))))
    refine awp_cond (b := true) (by simp [go_sem]) (fun hb => ?_) (fun hb => by cases hb)
    (repeat (first | refine awp_seq ?_ | refine awp_block ?_ | (refine awp_runG [0, 2, 3, 4, 5, 28, 30, 31, 32, 44] hX ?_; (simp [go_sem]; try (refine ⟨by kernel_rfl, ?_⟩))) | (refine awp_drawnG [0, 2, 3, 4, 5, 28, 30, 31, 32, 44] hX mixed ?_; (simp [go_sem]; try (refine ⟨by kernel_rfl, ?_⟩))) | (refine awp_ret ?_; (simp [go_sem]; try (refine ⟨by kernel_rfl, ?_⟩))) | (refine awp_skip ?_; (simp [go_sem]; try (refine ⟨by kernel_rfl, ?_⟩))) | (refine awp_exit ?_; (simp [go_sem]; try (refine ⟨by kernel_rfl, ?_⟩)))))
    simp [isNum]
  | cons c r =>
    by_cases hall : (c :: r).all isDigit = true
    · have hk := (tw_len_eq isDigit (c :: r)).2 hall
      rw [hk] at hs
      (repeat (first | refine awp_seq ?_ | refine awp_block ?_ | (refine awp_runG [0, 2, 3, 4, 5, 28, 30, 31, 32, 44] hX ?_; (simp [go_sem]; try (refine ⟨by kernel_rfl, ?_⟩))) | (refine awp_drawnG [0, 2, 3, 4, 5, 28, 30, 31, 32, 44] hX mixed ?_; (simp [go_sem]; try (refine ⟨by kernel_rfl, ?_⟩))) | (refine awp_ret ?_; (simp [go_sem]; try (refine ⟨by kernel_rfl, ?_⟩))) | (refine awp_skip ?_; (simp [go_sem]; try (refine ⟨by kernel_rfl, ?_⟩))) | (refine awp_exit ?_; (simp [go_sem]; try (refine ⟨by kernel_rfl, ?_⟩)))))
      first | refine callG_intro (fun hg => hs) rfl (by simp [go_sem]) rfl ?_ | refine callGT_intro (fun hg => hs) rfl (by simp [go_sem]) rfl ?_
      try (simp [go_sem]; try (refine ⟨by kernel_rfl, ?_⟩))
      (repeat (first | refine awp_seq ?_ | refine awp_block ?_ | (refine awp_runG [0, 2, 3, 4, 5, 28, 30, 31, 32, 44] hX ?_; (simp [go_sem]; try (refine ⟨by kernel_rfl, ?_⟩))) | (refine awp_drawnG [0, 2, 3, 4, 5, 28, 30, 31, 32, 44] hX mixed ?_; (simp [go_sem]; try (refine ⟨by kernel_rfl, ?_⟩))) | (refine awp_ret ?_; (simp [go_sem]; try (refine ⟨by kernel_rfl, ?_⟩))) | (refine awp_skip ?_; (simp [go_sem]; try (refine ⟨by kernel_rfl, ?_⟩))) | (refine awp_exit ?_; (simp [go_sem]; try (refine ⟨by kernel_rfl, ?_⟩)))))
      (repeat refine And.intro (by first | omega | (unfold maxLen; omega) | kernel_rfl | (refine ⟨by first | omega | (unfold maxLen; omega), by first | omega | (unfold maxLen; omega)⟩) | grind) ?_)
      refine awp_cond (b := (decide (c = 48) && !decide (c :: r = [48])) || decide (13 < (c :: r).length)) ?_ (fun hb => ?_) (fun hb => ?_)
      · simp [go_sem, c48]
        by_cases h48 : c = 48 <;> by_cases hr : r = [] <;> simp [h48, hr] <;> omega
      · (repeat (first | refine awp_seq ?_ | refine awp_block ?_ | (refine awp_runG [0, 2, 3, 4, 5, 28, 30, 31, 32, 44] hX ?_; (simp [go_sem]; try (refine ⟨by kernel_rfl, ?_⟩))) | (refine awp_drawnG [0, 2, 3, 4, 5, 28, 30, 31, 32, 44] hX mixed ?_; (simp [go_sem]; try (refine ⟨by kernel_rfl, ?_⟩))) | (refine awp_ret ?_; (simp [go_sem]; try (refine ⟨by kernel_rfl, ?_⟩))) | (refine awp_skip ?_; (simp [go_sem]; try (refine ⟨by kernel_rfl, ?_⟩))) | (refine awp_exit ?_; (simp [go_sem]; try (refine ⟨by kernel_rfl, ?_⟩)))))
        have : isNum (c :: r) = false := by
          cases h : isNum (c :: r) with
          | false => rfl
          | true =>
            simp only [isNum, Bool.and_eq_true, Bool.or_eq_true, decide_eq_true_eq, bne_iff_ne, beq_iff_eq, List.head?_cons, ne_eq, Option.some.injEq] at h
            simp only [Bool.or_eq_true, Bool.and_eq_true, decide_eq_true_eq, Bool.not_eq_true', decide_eq_false_iff_not] at hb
            rcases hb with hb | hb
            · rcases h.1.1.2 with h2 | h2
              · exact (h2 hb.1).elim
              · exact (hb.2 h2).elim
            · omega
        rw [this]; simp
      · (repeat (first | refine awp_seq ?_ | refine awp_block ?_ | (refine awp_runG [0, 2, 3, 4, 5, 28, 30, 31, 32, 44] hX ?_; (simp [go_sem]; try (refine ⟨by kernel_rfl, ?_⟩))) | (refine awp_drawnG [0, 2, 3, 4, 5, 28, 30, 31, 32, 44] hX mixed ?_; (simp [go_sem]; try (refine ⟨by kernel_rfl, ?_⟩))) | (refine awp_ret ?_; (simp [go_sem]; try (refine ⟨by kernel_rfl, ?_⟩))) | (refine awp_skip ?_; (simp [go_sem]; try (refine ⟨by kernel_rfl, ?_⟩))) | (refine awp_exit ?_; (simp [go_sem]; try (refine ⟨by kernel_rfl, ?_⟩)))))
        simp only [Bool.or_eq_false_iff, decide_eq_false_iff_not, Nat.not_lt] at hb
        have h13 := hb.2
        have hb2 : ∀ k, k ≤ (c :: r).length → numVal ((c :: r).take k) < 10000000000000 := fun k hk2 => by
          have h1 := numVal_lt hall k hk2
          have h2 : 10 ^ k ≤ 10 ^ 13 := Nat.pow_le_pow_right (by decide) (by omega)
          omega
        have hd : ∀ k (h : k < (c :: r).length), isDigit (c :: r)[k] = true := fun k h => List.all_eq_true.1 hall _ (List.getElem_mem h)
        generalize hL : c :: r = l at *
        refine awp_loop (fun k : Nat => ⟨mkE [(0, ss l), (2, ii 0), (3, bb false), (4, ii (numVal (l.take k))), (30, ii l.length), (31, ii k)], []⟩) (fun k => k ≤ l.length) (fun k => l.length - k) 0 ?_ ?_ ?_
        · refine sub_of _ [] (by simp [go_sem]) ?_
          subst hL
          simp [go_sem, numVal]
        · simp
        · intro k hk3
          (repeat (first | refine awp_seq ?_ | refine awp_block ?_ | (refine awp_runG [0, 2, 3, 4, 5, 28, 30, 31, 32, 44] hX ?_; (simp [go_sem]; try (refine ⟨by kernel_rfl, ?_⟩))) | (refine awp_drawnG [0, 2, 3, 4, 5, 28, 30, 31, 32, 44] hX mixed ?_; (simp [go_sem]; try (refine ⟨by kernel_rfl, ?_⟩))) | (refine awp_ret ?_; (simp [go_sem]; try (refine ⟨by kernel_rfl, ?_⟩))) | (refine awp_skip ?_; (simp [go_sem]; try (refine ⟨by kernel_rfl, ?_⟩))) | (refine awp_exit ?_; (simp [go_sem]; try (refine ⟨by kernel_rfl, ?_⟩)))))
          refine awp_cond (b := decide (k < l.length)) (by simp [go_sem]) (fun hc => ?_) (fun hc => ?_)
          · simp at hc
            have q1 := u8sub (hd k hc)
            have q2 := hb2 k hk3
            obtain ⟨q3, q4⟩ := dig (hd k hc)
            (repeat (first | refine awp_seq ?_ | refine awp_block ?_ | (refine awp_runG [0, 2, 3, 4, 5, 28, 30, 31, 32, 44] hX ?_; (simp [go_sem, hc, q1]; (try simp (disch := omega) only [w64, td, tm]); try (refine ⟨by kernel_rfl, ?_⟩))) | (refine awp_drawnG [0, 2, 3, 4, 5, 28, 30, 31, 32, 44] hX mixed ?_; (simp [go_sem, hc, q1]; (try simp (disch := omega) only [w64, td, tm]); try (refine ⟨by kernel_rfl, ?_⟩))) | (refine awp_ret ?_; (simp [go_sem, hc, q1]; (try simp (disch := omega) only [w64, td, tm]); try (refine ⟨by kernel_rfl, ?_⟩))) | (refine awp_skip ?_; (simp [go_sem, hc, q1]; (try simp (disch := omega) only [w64, td, tm]); try (refine ⟨by kernel_rfl, ?_⟩))) | (refine awp_exit ?_; (simp [go_sem, hc, q1]; (try simp (disch := omega) only [w64, td, tm]); try (refine ⟨by kernel_rfl, ?_⟩)))))
            refine ⟨k + 1, by omega, by omega, ?_⟩
            refine sub_of _ [] (by simp [go_sem]) ?_
            simp [go_sem]
            rw [numVal_take hc]
            omega
          · have hkl : k = l.length := by simp at hc; omega
            subst hkl
            rw [List.take_length]
            (repeat (first | refine awp_seq ?_ | refine awp_block ?_ | (refine awp_runG [0, 2, 3, 4, 5, 28, 30, 31, 32, 44] hX ?_; (simp [go_sem]; try (refine ⟨by kernel_rfl, ?_⟩))) | (refine awp_drawnG [0, 2, 3, 4, 5, 28, 30, 31, 32, 44] hX mixed ?_; (simp [go_sem]; try (refine ⟨by kernel_rfl, ?_⟩))) | (refine awp_ret ?_; (simp [go_sem]; try (refine ⟨by kernel_rfl, ?_⟩))) | (refine awp_skip ?_; (simp [go_sem]; try (refine ⟨by kernel_rfl, ?_⟩))) | (refine awp_exit ?_; (simp [go_sem]; try (refine ⟨by kernel_rfl, ?_⟩)))))
            refine awp_cond (b := decide (1099511627776 < numVal l)) (by simp [go_sem]; try omega) (fun hd2 => ?_) (fun hd2 => ?_)
            · (repeat (first | refine awp_seq ?_ | refine awp_block ?_ | (refine awp_runG [0, 2, 3, 4, 5, 28, 30, 31, 32, 44] hX ?_; (simp [go_sem]; try (refine ⟨by kernel_rfl, ?_⟩))) | (refine awp_drawnG [0, 2, 3, 4, 5, 28, 30, 31, 32, 44] hX mixed ?_; (simp [go_sem]; try (refine ⟨by kernel_rfl, ?_⟩))) | (refine awp_ret ?_; (simp [go_sem]; try (refine ⟨by kernel_rfl, ?_⟩))) | (refine awp_skip ?_; (simp [go_sem]; try (refine ⟨by kernel_rfl, ?_⟩))) | (refine awp_exit ?_; (simp [go_sem]; try (refine ⟨by kernel_rfl, ?_⟩)))))
              have : isNum l = false := by
                cases h : isNum l with
                | false => rfl
                | true =>
                  simp only [isNum, Bool.and_eq_true, decide_eq_true_eq] at h
                  simp at hd2; omega
              rw [this]; simp
            · (repeat (first | refine awp_seq ?_ | refine awp_block ?_ | (refine awp_runG [0, 2, 3, 4, 5, 28, 30, 31, 32, 44] hX ?_; (simp [go_sem]; try (refine ⟨by kernel_rfl, ?_⟩))) | (refine awp_drawnG [0, 2, 3, 4, 5, 28, 30, 31, 32, 44] hX mixed ?_; (simp [go_sem]; try (refine ⟨by kernel_rfl, ?_⟩))) | (refine awp_ret ?_; (simp [go_sem]; try (refine ⟨by kernel_rfl, ?_⟩))) | (refine awp_skip ?_; (simp [go_sem]; try (refine ⟨by kernel_rfl, ?_⟩))) | (refine awp_exit ?_; (simp [go_sem]; try (refine ⟨by kernel_rfl, ?_⟩)))))
              have : isNum l = true := by
                subst hL
                simp only [isNum, hall, Bool.and_eq_true, decide_eq_true_eq, List.isEmpty_cons, Bool.not_false, Bool.or_eq_true, bne_iff_ne, beq_iff_eq, List.head?_cons, ne_eq, Option.some.injEq, true_and, and_true]
                refine ⟨⟨?_, by simpa using h13⟩, by simp at hd2; omega⟩
                have := hb.1
                by_cases h48 : c = 48
                · right; simp [h48] at this; simp [h48, this]
                · exact .inl h48
              rw [this]; simp
    · have hk : ¬ ((c :: r).takeWhile isDigit).length = (c :: r).length := fun h => hall ((tw_len_eq isDigit (c :: r)).1 h)
      have hne : ¬ (((c :: r).takeWhile isDigit).length : Int) = ((c :: r).length : Int) := by omega
      have hl0 : c :: r ≠ [] := by simp
      generalize hL : c :: r = l at *
      (repeat (first | refine awp_seq ?_ | refine awp_block ?_ | (refine awp_runG [0, 2, 3, 4, 5, 28, 30, 31, 32, 44] hX ?_; (simp [go_sem, hl0]; try (refine ⟨by kernel_rfl, ?_⟩))) | (refine awp_drawnG [0, 2, 3, 4, 5, 28, 30, 31, 32, 44] hX mixed ?_; (simp [go_sem, hl0]; try (refine ⟨by kernel_rfl, ?_⟩))) | (refine awp_ret ?_; (simp [go_sem, hl0]; try (refine ⟨by kernel_rfl, ?_⟩))) | (refine awp_skip ?_; (simp [go_sem, hl0]; try (refine ⟨by kernel_rfl, ?_⟩))) | (refine awp_exit ?_; (simp [go_sem, hl0]; try (refine ⟨by kernel_rfl, ?_⟩)))))
      first | refine callG_intro (fun hg => hs) rfl (by simp [go_sem]) rfl ?_ | refine callGT_intro (fun hg => hs) rfl (by simp [go_sem]) rfl ?_
      try (simp [go_sem, hne]; try (refine ⟨by kernel_rfl, ?_⟩))
      (repeat (first | refine awp_seq ?_ | refine awp_block ?_ | (refine awp_runG [0, 2, 3, 4, 5, 28, 30, 31, 32, 44] hX ?_; (simp [go_sem, hne]; try (refine ⟨by kernel_rfl, ?_⟩))) | (refine awp_drawnG [0, 2, 3, 4, 5, 28, 30, 31, 32, 44] hX mixed ?_; (simp [go_sem, hne]; try (refine ⟨by kernel_rfl, ?_⟩))) | (refine awp_ret ?_; (simp [go_sem, hne]; try (refine ⟨by kernel_rfl, ?_⟩))) | (refine awp_skip ?_; (simp [go_sem, hne]; try (refine ⟨by kernel_rfl, ?_⟩))) | (refine awp_exit ?_; (simp [go_sem, hne]; try (refine ⟨by kernel_rfl, ?_⟩)))))
      refine awp_cond (b := true) (by simp [go_sem, hne]) (fun hb => ?_) (fun hb => by cases hb)
      (repeat (first | refine awp_seq ?_ | refine awp_block ?_ | (refine awp_runG [0, 2, 3, 4, 5, 28, 30, 31, 32, 44] hX ?_; (simp [go_sem]; try (refine ⟨by kernel_rfl, ?_⟩))) | (refine awp_drawnG [0, 2, 3, 4, 5, 28, 30, 31, 32, 44] hX mixed ?_; (simp [go_sem]; try (refine ⟨by kernel_rfl, ?_⟩))) | (refine awp_ret ?_; (simp [go_sem]; try (refine ⟨by kernel_rfl, ?_⟩))) | (refine awp_skip ?_; (simp [go_sem]; try (refine ⟨by kernel_rfl, ?_⟩))) | (refine awp_exit ?_; (simp [go_sem]; try (refine ⟨by kernel_rfl, ?_⟩)))))
      have : isNum l = false := by
        have h2 : l.all isDigit = false := Bool.eq_false_iff.2 hall
        simp only [isNum, h2, Bool.and_false, Bool.false_and]
      rw [this]; simp

end Go.Proofs.YtgkafceckdoabaaDoor
