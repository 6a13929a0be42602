/-
  The walks of layer 14: the reference.
-/
import Derived.Test.YtgkafceckdoabaaDoorLexD
set_option linter.all false
namespace Go.Proofs.YtgkafceckdoabaaDoor
open Go.RowKit Go.Ab
attribute [local irreducible] AWP Go.Ab.Sub Means MeansH CallK CallG CallT CallGT

theorem cut_m (l : By) (hl : l.length ≤ 9223372036854775807) : Means true Tryd.prog 10 [ss l] (ss (l.take 900)) := by
  refine means_fn true 8 [.tmp 2] Tryd.func10 rfl rfl rfl (by simp) (by decide) rfl fun X hX => ?_
  (repeat (first | refine awp_seq ?_ | refine awp_block ?_ | (refine awp_runG [0, 2] hX ?_; (simp [go_sem]; try (refine ⟨by kernel_rfl, ?_⟩))) | (refine awp_drawnG [0, 2] hX mixed ?_; (simp [go_sem]; try (refine ⟨by kernel_rfl, ?_⟩))) | (refine awp_ret ?_; (simp [go_sem]; try (refine ⟨by kernel_rfl, ?_⟩))) | (refine awp_skip ?_; (simp [go_sem]; try (refine ⟨by kernel_rfl, ?_⟩))) | (refine awp_exit ?_; (simp [go_sem]; try (refine ⟨by kernel_rfl, ?_⟩)))))
  (repeat refine And.intro (by first | omega | (unfold maxLen; omega) | kernel_rfl | (refine ⟨by first | omega | (unfold maxLen; omega), by first | omega | (unfold maxLen; omega)⟩) | grind) ?_)
  (repeat (first | refine awp_seq ?_ | refine awp_block ?_ | (refine awp_runG [0, 2] hX ?_; (simp [go_sem]; try (refine ⟨by kernel_rfl, ?_⟩))) | (refine awp_drawnG [0, 2] hX mixed ?_; (simp [go_sem]; try (refine ⟨by kernel_rfl, ?_⟩))) | (refine awp_ret ?_; (simp [go_sem]; try (refine ⟨by kernel_rfl, ?_⟩))) | (refine awp_skip ?_; (simp [go_sem]; try (refine ⟨by kernel_rfl, ?_⟩))) | (refine awp_exit ?_; (simp [go_sem]; try (refine ⟨by kernel_rfl, ?_⟩)))))
  omega

theorem rword_m (l : By) : Means true Tryd.prog 17 [ss l] (bb (isWord l)) := by
  refine means_fn true 36 [.tmp 2] Tryd.func17 rfl rfl rfl (by simp) (by decide) rfl fun X hX => ?_
  cases l with
  | nil =>
    (repeat (first | refine awp_seq ?_ | refine awp_block ?_ | (refine awp_runG [0, 2, 3, 17, 21, 35] hX ?_; (simp [go_sem]; try (refine ⟨by kernel_rfl, ?_⟩))) | (refine awp_drawnG [0, 2, 3, 17, 21, 35] hX mixed ?_; (simp [go_sem]; try (refine ⟨by kernel_rfl, ?_⟩))) | (refine awp_ret ?_; (simp [go_sem]; try (refine ⟨by kernel_rfl, ?_⟩))) | (refine awp_skip ?_; (simp [go_sem]; try (refine ⟨by kernel_rfl, ?_⟩))) | (refine awp_exit ?_; (simp [go_sem]; try (refine ⟨by kernel_rfl, ?_⟩)))))
    first | refine callG_intro (fun hg => (show Means true Tryd.prog _ _ (bb false) by cases hg)) rfl (by simp [go_sem]) rfl ?_ | refine callGT_intro (fun hg => (show Means true Tryd.prog _ _ (bb false) by cases hg)) rfl (by simp [go_sem]) rfl ?_
    try (simp [go_sem]; try (refine ⟨by kernel_rfl, ?_⟩))
    (repeat (first | refine awp_seq ?_ | refine awp_block ?_ | (refine awp_runG [0, 2, 3, 17, 21, 35] hX ?_; (simp [go_sem]; try (refine ⟨by kernel_rfl, ?_⟩))) | (refine awp_drawnG [0, 2, 3, 17, 21, 35] hX mixed ?_; (simp [go_sem]; try (refine ⟨by kernel_rfl, ?_⟩))) | (refine awp_ret ?_; (simp [go_sem]; try (refine ⟨by kernel_rfl, ?_⟩))) | (refine awp_skip ?_; (simp [go_sem]; try (refine ⟨by kernel_rfl, ?_⟩))) | (refine awp_exit ?_; (simp [go_sem]; try (refine ⟨by kernel_rfl, ?_⟩)))))
    refine awp_cond (b := true) (by simp [go_sem]) (fun hb => ?_) (fun hb => by cases hb)
    (repeat (first | refine awp_seq ?_ | refine awp_block ?_ | (refine awp_runG [0, 2, 3, 17, 21, 35] hX ?_; (simp [go_sem]; try (refine ⟨by kernel_rfl, ?_⟩))) | (refine awp_drawnG [0, 2, 3, 17, 21, 35] hX mixed ?_; (simp [go_sem]; try (refine ⟨by kernel_rfl, ?_⟩))) | (refine awp_ret ?_; (simp [go_sem]; try (refine ⟨by kernel_rfl, ?_⟩))) | (refine awp_skip ?_; (simp [go_sem]; try (refine ⟨by kernel_rfl, ?_⟩))) | (refine awp_exit ?_; (simp [go_sem]; try (refine ⟨by kernel_rfl, ?_⟩)))))
    simp [isWord]
  | cons c r =>
    by_cases h20 : (c :: r).length ≤ 20
    · have h20' : ¬ 20 < ((c :: r).length : Int) := by omega
      have h20'' : r.length ≤ 19 := by simpa using h20
      have h1 : ¬ ((c :: r).length : Int) < 1 := by simp; omega
      (repeat (first | refine awp_seq ?_ | refine awp_block ?_ | (refine awp_runG [0, 2, 3, 17, 21, 35] hX ?_; (simp [go_sem, h20', h1, h20'']; try (refine ⟨by kernel_rfl, ?_⟩))) | (refine awp_drawnG [0, 2, 3, 17, 21, 35] hX mixed ?_; (simp [go_sem, h20', h1, h20'']; try (refine ⟨by kernel_rfl, ?_⟩))) | (refine awp_ret ?_; (simp [go_sem, h20', h1, h20'']; try (refine ⟨by kernel_rfl, ?_⟩))) | (refine awp_skip ?_; (simp [go_sem, h20', h1, h20'']; try (refine ⟨by kernel_rfl, ?_⟩))) | (refine awp_exit ?_; (simp [go_sem, h20', h1, h20'']; try (refine ⟨by kernel_rfl, ?_⟩)))))
      (repeat refine And.intro (by first | omega | (unfold maxLen; omega) | kernel_rfl | (refine ⟨by first | omega | (unfold maxLen; omega), by first | omega | (unfold maxLen; omega)⟩) | grind) ?_)
      first | refine callG_intro (fun hg => rletter_m c) rfl (by simp [go_sem]) rfl ?_ | refine callGT_intro (fun hg => rletter_m c) rfl (by simp [go_sem]) rfl ?_
      try (simp [go_sem, h20', h1]; try (refine ⟨by kernel_rfl, ?_⟩))
      (repeat (first | refine awp_seq ?_ | refine awp_block ?_ | (refine awp_runG [0, 2, 3, 17, 21, 35] hX ?_; (simp [go_sem]; try (refine ⟨by kernel_rfl, ?_⟩))) | (refine awp_drawnG [0, 2, 3, 17, 21, 35] hX mixed ?_; (simp [go_sem]; try (refine ⟨by kernel_rfl, ?_⟩))) | (refine awp_ret ?_; (simp [go_sem]; try (refine ⟨by kernel_rfl, ?_⟩))) | (refine awp_skip ?_; (simp [go_sem]; try (refine ⟨by kernel_rfl, ?_⟩))) | (refine awp_exit ?_; (simp [go_sem]; try (refine ⟨by kernel_rfl, ?_⟩)))))
      refine awp_cond (b := !isLetter c) (by simp [go_sem]; intro h; omega) (fun hb => ?_) (fun hb => ?_)
      · (repeat (first | refine awp_seq ?_ | refine awp_block ?_ | (refine awp_runG [0, 2, 3, 17, 21, 35] hX ?_; (simp [go_sem]; try (refine ⟨by kernel_rfl, ?_⟩))) | (refine awp_drawnG [0, 2, 3, 17, 21, 35] hX mixed ?_; (simp [go_sem]; try (refine ⟨by kernel_rfl, ?_⟩))) | (refine awp_ret ?_; (simp [go_sem]; try (refine ⟨by kernel_rfl, ?_⟩))) | (refine awp_skip ?_; (simp [go_sem]; try (refine ⟨by kernel_rfl, ?_⟩))) | (refine awp_exit ?_; (simp [go_sem]; try (refine ⟨by kernel_rfl, ?_⟩)))))
        simp at hb
        simp [isWord, hb]
      · simp at hb
        (repeat (first | refine awp_seq ?_ | refine awp_block ?_ | (refine awp_runG [0, 2, 3, 17, 21, 35] hX ?_; (simp [go_sem]; try (refine ⟨by kernel_rfl, ?_⟩))) | (refine awp_drawnG [0, 2, 3, 17, 21, 35] hX mixed ?_; (simp [go_sem]; try (refine ⟨by kernel_rfl, ?_⟩))) | (refine awp_ret ?_; (simp [go_sem]; try (refine ⟨by kernel_rfl, ?_⟩))) | (refine awp_skip ?_; (simp [go_sem]; try (refine ⟨by kernel_rfl, ?_⟩))) | (refine awp_exit ?_; (simp [go_sem]; try (refine ⟨by kernel_rfl, ?_⟩)))))
        have hw : ∀ k, k ≤ (c :: r).length → 1 ≤ k → ((c :: r).take k).all isAl = true → ∀ h : k < (c :: r).length, isAl (c :: r)[k] = false → isWord (c :: r) = false := fun k _ _ _ h hf => by
          simp only [isWord, Bool.and_eq_false_iff]
          right
          rw [List.all_eq_false]
          exact ⟨_, List.getElem_mem h, by simp [hf]⟩
        have hfin : (c :: r).all isAl = true → isWord (c :: r) = true := fun h => by
          simp only [isWord, hb, h, Bool.and_true, Bool.true_and, decide_eq_true_eq]; exact h20
        have ha1 : ((c :: r).take 1).all isAl = true := by simp [isAl, hb]
        have hlen : 1 ≤ (c :: r).length := by simp
        generalize c :: r = l at *
        refine awp_loop (fun k : Nat => ⟨mkE [(0, ss l), (2, bb false), (3, ii k)], []⟩) (fun k => k ≤ l.length ∧ 1 ≤ k ∧ (l.take k).all isAl = true) (fun k => l.length - k) 1 ?_ ?_ ?_
        · refine sub_of _ [] (by simp [go_sem]) ?_
          simp [go_sem]
        · exact ⟨hlen, by omega, ha1⟩
        · rintro k ⟨hk, hk1, hn⟩
          (repeat (first | refine awp_seq ?_ | refine awp_block ?_ | (refine awp_runG [0, 2, 3, 17, 21, 35] hX ?_; (simp [go_sem]; try (refine ⟨by kernel_rfl, ?_⟩))) | (refine awp_drawnG [0, 2, 3, 17, 21, 35] hX mixed ?_; (simp [go_sem]; try (refine ⟨by kernel_rfl, ?_⟩))) | (refine awp_ret ?_; (simp [go_sem]; try (refine ⟨by kernel_rfl, ?_⟩))) | (refine awp_skip ?_; (simp [go_sem]; try (refine ⟨by kernel_rfl, ?_⟩))) | (refine awp_exit ?_; (simp [go_sem]; try (refine ⟨by kernel_rfl, ?_⟩)))))
          refine awp_cond (b := decide (k < l.length)) (by simp [go_sem]) (fun hc => ?_) (fun hc => ?_)
          · simp at hc
            obtain ⟨t1, _⟩ := tw_step hc hn
            have hw2 := hw k hk hk1 hn hc
            (repeat (first | refine awp_seq ?_ | refine awp_block ?_ | (refine awp_runG [0, 2, 3, 17, 21, 35] hX ?_; (simp [go_sem, hc]; try (refine ⟨by kernel_rfl, ?_⟩))) | (refine awp_drawnG [0, 2, 3, 17, 21, 35] hX mixed ?_; (simp [go_sem, hc]; try (refine ⟨by kernel_rfl, ?_⟩))) | (refine awp_ret ?_; (simp [go_sem, hc]; try (refine ⟨by kernel_rfl, ?_⟩))) | (refine awp_skip ?_; (simp [go_sem, hc]; try (refine ⟨by kernel_rfl, ?_⟩))) | (refine awp_exit ?_; (simp [go_sem, hc]; try (refine ⟨by kernel_rfl, ?_⟩)))))
            first | refine callK_intro (rletter_m l[k]) rfl (by simp [go_sem]) rfl ?_ | refine callT_intro (rletter_m l[k]) rfl (by simp [go_sem]) rfl ?_
            try (simp [go_sem, hc]; try (refine ⟨by kernel_rfl, ?_⟩))
            first | refine callG_intro (fun hg => rdigit_m l[k]) rfl (by simp [go_sem]) rfl ?_ | refine callGT_intro (fun hg => rdigit_m l[k]) rfl (by simp [go_sem]) rfl ?_
            try (simp [go_sem]; try (refine ⟨by kernel_rfl, ?_⟩))
            (repeat (first | refine awp_seq ?_ | refine awp_block ?_ | (refine awp_runG [0, 2, 3, 17, 21, 35] hX ?_; (simp [go_sem]; try (refine ⟨by kernel_rfl, ?_⟩))) | (refine awp_drawnG [0, 2, 3, 17, 21, 35] hX mixed ?_; (simp [go_sem]; try (refine ⟨by kernel_rfl, ?_⟩))) | (refine awp_ret ?_; (simp [go_sem]; try (refine ⟨by kernel_rfl, ?_⟩))) | (refine awp_skip ?_; (simp [go_sem]; try (refine ⟨by kernel_rfl, ?_⟩))) | (refine awp_exit ?_; (simp [go_sem]; try (refine ⟨by kernel_rfl, ?_⟩)))))
            refine awp_cond (b := !isAl l[k]) (by simp [go_sem, isAl]; try (cases isLetter l[k] <;> simp)) (fun hd => ?_) (fun hd => ?_)
            · (repeat (first | refine awp_seq ?_ | refine awp_block ?_ | (refine awp_runG [0, 2, 3, 17, 21, 35] hX ?_; (simp [go_sem]; try (refine ⟨by kernel_rfl, ?_⟩))) | (refine awp_drawnG [0, 2, 3, 17, 21, 35] hX mixed ?_; (simp [go_sem]; try (refine ⟨by kernel_rfl, ?_⟩))) | (refine awp_ret ?_; (simp [go_sem]; try (refine ⟨by kernel_rfl, ?_⟩))) | (refine awp_skip ?_; (simp [go_sem]; try (refine ⟨by kernel_rfl, ?_⟩))) | (refine awp_exit ?_; (simp [go_sem]; try (refine ⟨by kernel_rfl, ?_⟩)))))
              simp at hd
              simp [hw2 hd]
            · simp at hd
              (repeat (first | refine awp_seq ?_ | refine awp_block ?_ | (refine awp_runG [0, 2, 3, 17, 21, 35] hX ?_; (simp [go_sem]; (try simp (disch := omega) only [w64, td, tm]); try (refine ⟨by kernel_rfl, ?_⟩))) | (refine awp_drawnG [0, 2, 3, 17, 21, 35] hX mixed ?_; (simp [go_sem]; (try simp (disch := omega) only [w64, td, tm]); try (refine ⟨by kernel_rfl, ?_⟩))) | (refine awp_ret ?_; (simp [go_sem]; (try simp (disch := omega) only [w64, td, tm]); try (refine ⟨by kernel_rfl, ?_⟩))) | (refine awp_skip ?_; (simp [go_sem]; (try simp (disch := omega) only [w64, td, tm]); try (refine ⟨by kernel_rfl, ?_⟩))) | (refine awp_exit ?_; (simp [go_sem]; (try simp (disch := omega) only [w64, td, tm]); try (refine ⟨by kernel_rfl, ?_⟩)))))
              refine ⟨k + 1, ⟨by omega, by omega, by simpa using t1 hd⟩, by omega, ?_⟩
              refine sub_of _ [] (by simp [go_sem]) ?_
              simp [go_sem]
          · have hkl : k = l.length := by simp at hc; omega
            subst hkl
            rw [List.take_length] at hn
            (repeat (first | refine awp_seq ?_ | refine awp_block ?_ | (refine awp_runG [0, 2, 3, 17, 21, 35] hX ?_; (simp [go_sem]; try (refine ⟨by kernel_rfl, ?_⟩))) | (refine awp_drawnG [0, 2, 3, 17, 21, 35] hX mixed ?_; (simp [go_sem]; try (refine ⟨by kernel_rfl, ?_⟩))) | (refine awp_ret ?_; (simp [go_sem]; try (refine ⟨by kernel_rfl, ?_⟩))) | (refine awp_skip ?_; (simp [go_sem]; try (refine ⟨by kernel_rfl, ?_⟩))) | (refine awp_exit ?_; (simp [go_sem]; try (refine ⟨by kernel_rfl, ?_⟩)))))
            simp [hfin hn]
    · have h20' : 20 < ((c :: r).length : Int) := by omega
      have h20'' : 20 < (r.length : Int) + 1 := by simpa using h20'
      have h1 : ¬ ((c :: r).length : Int) < 1 := by simp; omega
      (repeat (first | refine awp_seq ?_ | refine awp_block ?_ | (refine awp_runG [0, 2, 3, 17, 21, 35] hX ?_; (simp [go_sem, h20', h1, h20'']; try (refine ⟨by kernel_rfl, ?_⟩))) | (refine awp_drawnG [0, 2, 3, 17, 21, 35] hX mixed ?_; (simp [go_sem, h20', h1, h20'']; try (refine ⟨by kernel_rfl, ?_⟩))) | (refine awp_ret ?_; (simp [go_sem, h20', h1, h20'']; try (refine ⟨by kernel_rfl, ?_⟩))) | (refine awp_skip ?_; (simp [go_sem, h20', h1, h20'']; try (refine ⟨by kernel_rfl, ?_⟩))) | (refine awp_exit ?_; (simp [go_sem, h20', h1, h20'']; try (refine ⟨by kernel_rfl, ?_⟩)))))
      first | refine callG_intro (fun hg => (show Means true Tryd.prog _ _ (bb false) by simp [h20''] at hg)) rfl (by simp [go_sem]) rfl ?_ | refine callGT_intro (fun hg => (show Means true Tryd.prog _ _ (bb false) by simp [h20''] at hg)) rfl (by simp [go_sem]) rfl ?_
      try (simp [go_sem, h20', h1, h20'']; try (refine ⟨by kernel_rfl, ?_⟩))
      (repeat (first | refine awp_seq ?_ | refine awp_block ?_ | (refine awp_runG [0, 2, 3, 17, 21, 35] hX ?_; (simp [go_sem]; try (refine ⟨by kernel_rfl, ?_⟩))) | (refine awp_drawnG [0, 2, 3, 17, 21, 35] hX mixed ?_; (simp [go_sem]; try (refine ⟨by kernel_rfl, ?_⟩))) | (refine awp_ret ?_; (simp [go_sem]; try (refine ⟨by kernel_rfl, ?_⟩))) | (refine awp_skip ?_; (simp [go_sem]; try (refine ⟨by kernel_rfl, ?_⟩))) | (refine awp_exit ?_; (simp [go_sem]; try (refine ⟨by kernel_rfl, ?_⟩)))))
      refine awp_cond (b := true) (by simp [go_sem]) (fun hb => ?_) (fun hb => by cases hb)
      (repeat (first | refine awp_seq ?_ | refine awp_block ?_ | (refine awp_runG [0, 2, 3, 17, 21, 35] hX ?_; (simp [go_sem]; try (refine ⟨by kernel_rfl, ?_⟩))) | (refine awp_drawnG [0, 2, 3, 17, 21, 35] hX mixed ?_; (simp [go_sem]; try (refine ⟨by kernel_rfl, ?_⟩))) | (refine awp_ret ?_; (simp [go_sem]; try (refine ⟨by kernel_rfl, ?_⟩))) | (refine awp_skip ?_; (simp [go_sem]; try (refine ⟨by kernel_rfl, ?_⟩))) | (refine awp_exit ?_; (simp [go_sem]; try (refine ⟨by kernel_rfl, ?_⟩)))))
      simp only [isWord, h20, decide_false, Bool.and_false, Bool.false_and]

/-- A number, as the reference says it. -/
theorem isNum_ref (l : By) : isNum l = (!l.isEmpty && l.all isDigit && (l.head? != some 48 || l == [48]) && decide (numVal l ≤ 1099511627776)) := by
  cases l with
  | nil => rfl
  | cons c r =>
    rw [Bool.eq_iff_iff]
    simp only [isNum, Bool.and_eq_true, decide_eq_true_eq]
    constructor
    · rintro ⟨⟨h1, h2⟩, h3⟩; exact ⟨h1, h3⟩
    · rintro ⟨h1, h3⟩
      refine ⟨⟨h1, ?_⟩, h3⟩
      simp only [Bool.or_eq_true, bne_iff_ne, ne_eq, List.head?_cons, Option.some.injEq, beq_iff_eq] at h1
      rcases h1.2 with h48 | h48
      · have hd : isDigit c = true := by have := h1.1.2; simp only [List.all_cons, Bool.and_eq_true] at this; exact this.1
        have := numVal_ge (r := r) hd h48 r
        have h4 : r.length < 13 := by
          refine Nat.lt_of_not_le fun h => ?_
          have h5 : 10 ^ 13 ≤ 10 ^ r.length := Nat.pow_le_pow_right (by decide) h
          omega
        simp only [List.length_cons]; omega
      · rw [h48]; simp

theorem numVal_mono : ∀ (l : By) (k : Nat), numVal (l.take k) ≤ numVal l := by
  intro l k
  have gen : ∀ (r : By) (v : Nat), v ≤ r.foldl (fun n c => 10 * n + (c.toNat - 48)) v := by
    intro r
    induction r with
    | nil => intro v; exact Nat.le_refl _
    | cons d r ih => intro v; exact Nat.le_trans (show v ≤ 10 * v + (d.toNat - 48) by omega) (ih _)
  have : numVal l = (l.drop k).foldl (fun n c => 10 * n + (c.toNat - 48)) (numVal (l.take k)) := by
    simp only [numVal]; rw [← List.foldl_append, List.take_append_drop]
  rw [this]; exact gen _ _

set_option maxHeartbeats 1000000 in
set_option maxRecDepth 20000 in
theorem rnumber_m (l : By) (hl : l.length ≤ 100000) : Means true Tryd.prog 14 [ss l] (numAV l) := by
  refine means_fn true 47 [.tmp 2, .tmp 3] Tryd.func14 rfl rfl rfl (by simp) (by decide) rfl fun X hX => ?_
  (repeat (first | refine awp_seq ?_ | refine awp_block ?_ | (refine awp_runG [0, 2, 3, 4, 5, 9, 20, 45] hX ?_; (simp [go_sem]; try (refine ⟨by kernel_rfl, ?_⟩))) | (refine awp_drawnG [0, 2, 3, 4, 5, 9, 20, 45] hX mixed ?_; (simp [go_sem]; try (refine ⟨by kernel_rfl, ?_⟩))) | (refine awp_ret ?_; (simp [go_sem]; try (refine ⟨by kernel_rfl, ?_⟩))) | (refine awp_skip ?_; (simp [go_sem]; try (refine ⟨by kernel_rfl, ?_⟩))) | (refine awp_exit ?_; (simp [go_sem]; try (refine ⟨by kernel_rfl, ?_⟩)))))
  refine awp_loop (fun k : Nat => ⟨mkE [(0, ss l), (2, ii 0), (3, bb false), (4, ii (numVal (l.take k))), (5, ii k)], []⟩) (fun k => k ≤ l.length ∧ (l.take k).all isDigit = true ∧ numVal (l.take k) ≤ 10995116277770) (fun k => l.length - k) 0 ?_ ?_ ?_
  · refine sub_of _ [] (by simp [go_sem]) ?_
    simp [go_sem, numVal]
  · simp [numVal]
  · rintro k ⟨hk, hn, hv⟩
    (repeat (first | refine awp_seq ?_ | refine awp_block ?_ | (refine awp_runG [0, 2, 3, 4, 5, 9, 20, 45] hX ?_; (simp [go_sem]; try (refine ⟨by kernel_rfl, ?_⟩))) | (refine awp_drawnG [0, 2, 3, 4, 5, 9, 20, 45] hX mixed ?_; (simp [go_sem]; try (refine ⟨by kernel_rfl, ?_⟩))) | (refine awp_ret ?_; (simp [go_sem]; try (refine ⟨by kernel_rfl, ?_⟩))) | (refine awp_skip ?_; (simp [go_sem]; try (refine ⟨by kernel_rfl, ?_⟩))) | (refine awp_exit ?_; (simp [go_sem]; try (refine ⟨by kernel_rfl, ?_⟩)))))
    refine awp_cond (b := decide (k < l.length)) (by simp [go_sem]) (fun hc => ?_) (fun hc => ?_)
    · simp at hc
      obtain ⟨t1, _⟩ := tw_step hc hn
      (repeat (first | refine awp_seq ?_ | refine awp_block ?_ | (refine awp_runG [0, 2, 3, 4, 5, 9, 20, 45] hX ?_; (simp [go_sem, hc]; try (refine ⟨by kernel_rfl, ?_⟩))) | (refine awp_drawnG [0, 2, 3, 4, 5, 9, 20, 45] hX mixed ?_; (simp [go_sem, hc]; try (refine ⟨by kernel_rfl, ?_⟩))) | (refine awp_ret ?_; (simp [go_sem, hc]; try (refine ⟨by kernel_rfl, ?_⟩))) | (refine awp_skip ?_; (simp [go_sem, hc]; try (refine ⟨by kernel_rfl, ?_⟩))) | (refine awp_exit ?_; (simp [go_sem, hc]; try (refine ⟨by kernel_rfl, ?_⟩)))))
      first | refine callK_intro (rdigit_m l[k]) rfl (by simp [go_sem]) rfl ?_ | refine callT_intro (rdigit_m l[k]) rfl (by simp [go_sem]) rfl ?_
      try (simp [go_sem, hc]; try (refine ⟨by kernel_rfl, ?_⟩))
      (repeat (first | refine awp_seq ?_ | refine awp_block ?_ | (refine awp_runG [0, 2, 3, 4, 5, 9, 20, 45] hX ?_; (simp [go_sem]; try (refine ⟨by kernel_rfl, ?_⟩))) | (refine awp_drawnG [0, 2, 3, 4, 5, 9, 20, 45] hX mixed ?_; (simp [go_sem]; try (refine ⟨by kernel_rfl, ?_⟩))) | (refine awp_ret ?_; (simp [go_sem]; try (refine ⟨by kernel_rfl, ?_⟩))) | (refine awp_skip ?_; (simp [go_sem]; try (refine ⟨by kernel_rfl, ?_⟩))) | (refine awp_exit ?_; (simp [go_sem]; try (refine ⟨by kernel_rfl, ?_⟩)))))
      refine awp_cond (b := !isDigit l[k] || decide (1099511627776 < numVal (l.take k))) (by simp [go_sem]; try (cases isDigit l[k] <;> simp; try omega)) (fun hd => ?_) (fun hd => ?_)
      · (repeat (first | refine awp_seq ?_ | refine awp_block ?_ | (refine awp_runG [0, 2, 3, 4, 5, 9, 20, 45] hX ?_; (simp [go_sem]; try (refine ⟨by kernel_rfl, ?_⟩))) | (refine awp_drawnG [0, 2, 3, 4, 5, 9, 20, 45] hX mixed ?_; (simp [go_sem]; try (refine ⟨by kernel_rfl, ?_⟩))) | (refine awp_ret ?_; (simp [go_sem]; try (refine ⟨by kernel_rfl, ?_⟩))) | (refine awp_skip ?_; (simp [go_sem]; try (refine ⟨by kernel_rfl, ?_⟩))) | (refine awp_exit ?_; (simp [go_sem]; try (refine ⟨by kernel_rfl, ?_⟩)))))
        have : isNum l = false := by
          rw [isNum_ref]
          simp only [Bool.or_eq_true, Bool.not_eq_true', decide_eq_true_eq] at hd
          rcases hd with hd | hd
          · have : l.all isDigit = false := by rw [List.all_eq_false]; exact ⟨_, List.getElem_mem hc, by simp [hd]⟩
            simp [this]
          · have := numVal_mono l k
            simp only [Bool.and_eq_false_iff, decide_eq_false_iff_not]; right; omega
        rw [this]; simp
      · simp only [Bool.or_eq_false_iff, Bool.not_eq_false', decide_eq_false_iff_not, Nat.not_lt] at hd
        obtain ⟨q3, q4⟩ := dig hd.1
        have hs := numVal_take hc
        (repeat (first | refine awp_seq ?_ | refine awp_block ?_ | (refine awp_runG [0, 2, 3, 4, 5, 9, 20, 45] hX ?_; (simp [go_sem, hc]; (try simp (disch := omega) only [w64, td, tm]); try (refine ⟨by kernel_rfl, ?_⟩))) | (refine awp_drawnG [0, 2, 3, 4, 5, 9, 20, 45] hX mixed ?_; (simp [go_sem, hc]; (try simp (disch := omega) only [w64, td, tm]); try (refine ⟨by kernel_rfl, ?_⟩))) | (refine awp_ret ?_; (simp [go_sem, hc]; (try simp (disch := omega) only [w64, td, tm]); try (refine ⟨by kernel_rfl, ?_⟩))) | (refine awp_skip ?_; (simp [go_sem, hc]; (try simp (disch := omega) only [w64, td, tm]); try (refine ⟨by kernel_rfl, ?_⟩))) | (refine awp_exit ?_; (simp [go_sem, hc]; (try simp (disch := omega) only [w64, td, tm]); try (refine ⟨by kernel_rfl, ?_⟩)))))
        refine ⟨k + 1, ⟨by omega, by simpa using t1 hd.1, by omega⟩, by omega, ?_⟩
        refine sub_of _ [] (by simp [go_sem]) ?_
        simp [go_sem]
        omega
    · have hkl : k = l.length := by simp at hc; omega
      subst hkl
      rw [List.take_length] at hn hv ⊢
      have hr := isNum_ref l
      cases l with
      | nil =>
        (repeat (first | refine awp_seq ?_ | refine awp_block ?_ | (refine awp_runG [0, 2, 3, 4, 5, 9, 20, 45] hX ?_; (simp [go_sem]; try (refine ⟨by kernel_rfl, ?_⟩))) | (refine awp_drawnG [0, 2, 3, 4, 5, 9, 20, 45] hX mixed ?_; (simp [go_sem]; try (refine ⟨by kernel_rfl, ?_⟩))) | (refine awp_ret ?_; (simp [go_sem]; try (refine ⟨by kernel_rfl, ?_⟩))) | (refine awp_skip ?_; (simp [go_sem]; try (refine ⟨by kernel_rfl, ?_⟩))) | (refine awp_exit ?_; (simp [go_sem]; try (refine ⟨by kernel_rfl, ?_⟩)))))
        refine awp_cond (b := true) (by simp [go_sem]) (fun hb => ?_) (fun hb => by cases hb)
        (repeat (first | refine awp_seq ?_ | refine awp_block ?_ | (refine awp_runG [0, 2, 3, 4, 5, 9, 20, 45] hX ?_; (simp [go_sem]; try (refine ⟨by kernel_rfl, ?_⟩))) | (refine awp_drawnG [0, 2, 3, 4, 5, 9, 20, 45] hX mixed ?_; (simp [go_sem]; try (refine ⟨by kernel_rfl, ?_⟩))) | (refine awp_ret ?_; (simp [go_sem]; try (refine ⟨by kernel_rfl, ?_⟩))) | (refine awp_skip ?_; (simp [go_sem]; try (refine ⟨by kernel_rfl, ?_⟩))) | (refine awp_exit ?_; (simp [go_sem]; try (refine ⟨by kernel_rfl, ?_⟩)))))
        simp [isNum]
      | cons c r =>
        have h1 : ¬ ((c :: r).length : Int) < 1 := by simp; omega
        have h2 : ((1 : Int) < ((c :: r).length : Int)) ↔ r ≠ [] := by cases r <;> simp; omega
        (repeat (first | refine awp_seq ?_ | refine awp_block ?_ | (refine awp_runG [0, 2, 3, 4, 5, 9, 20, 45] hX ?_; (simp [go_sem, h1]; try (refine ⟨by kernel_rfl, ?_⟩))) | (refine awp_drawnG [0, 2, 3, 4, 5, 9, 20, 45] hX mixed ?_; (simp [go_sem, h1]; try (refine ⟨by kernel_rfl, ?_⟩))) | (refine awp_ret ?_; (simp [go_sem, h1]; try (refine ⟨by kernel_rfl, ?_⟩))) | (refine awp_skip ?_; (simp [go_sem, h1]; try (refine ⟨by kernel_rfl, ?_⟩))) | (refine awp_exit ?_; (simp [go_sem, h1]; try (refine ⟨by kernel_rfl, ?_⟩)))))
        (repeat refine And.intro (by first | omega | (unfold maxLen; omega) | kernel_rfl | (refine ⟨by first | omega | (unfold maxLen; omega), by first | omega | (unfold maxLen; omega)⟩) | grind) ?_)
        refine awp_cond (b := !isNum (c :: r)) ?_ (fun hd => ?_) (fun hd => ?_)
        · simp only [hn, List.isEmpty_cons, Bool.not_false, Bool.true_and] at hr
          rw [hr]
          simp [go_sem, c48]
          rw [show decide ((r.length : Int) + 1 < 1) = false by simp; omega, show decide ((1 : Int) < (r.length : Int) + 1) = !r.isEmpty by cases r <;> simp <;> omega,
            show decide ((1099511627776 : Int) < (numVal (c :: r) : Int)) = !decide (numVal (c :: r) ≤ 1099511627776) by rw [Bool.eq_iff_iff]; simp; omega]
          by_cases h48 : c = 48
          · subst h48; simp
          · have hf : (c == 48) = false := by simpa using h48
            have hs : (some c != some 48) = true := by simpa using h48
            simp [h48, hf, hs]
        · (repeat (first | refine awp_seq ?_ | refine awp_block ?_ | (refine awp_runG [0, 2, 3, 4, 5, 9, 20, 45] hX ?_; (simp [go_sem]; try (refine ⟨by kernel_rfl, ?_⟩))) | (refine awp_drawnG [0, 2, 3, 4, 5, 9, 20, 45] hX mixed ?_; (simp [go_sem]; try (refine ⟨by kernel_rfl, ?_⟩))) | (refine awp_ret ?_; (simp [go_sem]; try (refine ⟨by kernel_rfl, ?_⟩))) | (refine awp_skip ?_; (simp [go_sem]; try (refine ⟨by kernel_rfl, ?_⟩))) | (refine awp_exit ?_; (simp [go_sem]; try (refine ⟨by kernel_rfl, ?_⟩)))))
          simp at hd
          simp [hd]
        · (repeat (first | refine awp_seq ?_ | refine awp_block ?_ | (refine awp_runG [0, 2, 3, 4, 5, 9, 20, 45] hX ?_; (simp [go_sem]; try (refine ⟨by kernel_rfl, ?_⟩))) | (refine awp_drawnG [0, 2, 3, 4, 5, 9, 20, 45] hX mixed ?_; (simp [go_sem]; try (refine ⟨by kernel_rfl, ?_⟩))) | (refine awp_ret ?_; (simp [go_sem]; try (refine ⟨by kernel_rfl, ?_⟩))) | (refine awp_skip ?_; (simp [go_sem]; try (refine ⟨by kernel_rfl, ?_⟩))) | (refine awp_exit ?_; (simp [go_sem]; try (refine ⟨by kernel_rfl, ?_⟩)))))
          simp at hd
          simp [hd]

end Go.Proofs.YtgkafceckdoabaaDoor
